import PyProof.Rows.All
import Wide.All
import OpenK.AllK
import Wide.FinOn
import HandS.ForMost
import HandS.ForExc
import HandS.Zip
import HandS.TupAny
import HandS.TupMul
import HandS.Conv
import HandS.Deep
import HandS.Wide
import HandS.Flow
import HandS.Style
import HandS.Defaults
import HandS.IsInst
import KE.KDictKeyed
import KE.SortData
import KE.GoesEnum
import HandS.DictTup
import HandS.Rev
import HandS.RevTup
import HandS.ExcIs
import HandS.ExcOwn
import KE.KDictDisplayH
import KE.KEqDict
import KE.DataCmp
import HandS.More
import KE.KTupSum
import KE.KDictPairs
import KE.KItemsList
import KE.KDictList
import KE.KDictSum
import HandS.Text
import HandS.TryOnly
import PyProof.StrOps2
import PySem.Challenge.RW_mixform_k14_no_text
import HandS.Codes
set_option Elab.async false
set_option linter.all false
set_option maxRecDepth 100000
set_option maxHeartbeats 4000000
/-! The data layer, part 1: what a value stands for (Rp), frozen heaps (Ext), slots of data (EnvOk), the answers (Ans). -/
namespace DL
open PySem PySem.Spec PyProof.Rows L2

abbrev D := PyData
/-- none: not served; an error: an exception of that class -/
abbrev M (α : Type) := Option (Except Value α)
def mok {α : Type} (a : α) : M α := some (.ok a)
def mbind {α β : Type} (m : M α) (k : α → M β) : M β := match m with
  | none => none
  | some (.error c) => some (.error c)
  | some (.ok a) => k a
@[simp] theorem mbind_ok {α β : Type} (a : α) (k : α → M β) : mbind (some (.ok a)) k = k a := rfl
@[simp] theorem mbind_mok {α β : Type} (a : α) (k : α → M β) : mbind (mok a) k = k a := rfl
@[simp] theorem mbind_none {α β : Type} (k : α → M β) : mbind none k = none := rfl
@[simp] theorem mbind_err {α β : Type} (c : Value) (k : α → M β) : mbind (some (.error c)) k = some (.error c) := rfl
def Ans {α : Type} (m : M α) (p : α → Prop) (e : Value → Prop) : Prop := match m with
  | none => False
  | some (.error c) => e c
  | some (.ok a) => p a
theorem Ans.bind {α β : Type} {m : M α} {k : α → M β} {p : β → Prop} {e : Value → Prop} (h : Ans (mbind m k) p e) : Ans m (fun a => Ans (k a) p e) e := by
  cases m with
  | none => exact h
  | some r =>
    cases r with
    | error c => exact h
    | ok a => exact h
theorem Ans.mono {α : Type} {m : M α} {p p' : α → Prop} {e e' : Value → Prop} (h : Ans m p e) (hp : ∀ a, p a → p' a) (he : ∀ c, e c → e' c) : Ans m p' e' := by
  cases m with
  | none => exact h
  | some r =>
    cases r with
    | error c => exact he c h
    | ok a => exact hp a h
/-- with what was answered -/
theorem Ans.monoE {α : Type} {m : M α} {p p' : α → Prop} {e e' : Value → Prop} (h : Ans m p e) (hp : ∀ a, m = some (.ok a) → p a → p' a) (he : ∀ c, m = some (.error c) → e c → e' c) : Ans m p' e' := by
  cases m with
  | none => exact h
  | some r =>
    cases r with
    | error c => exact he c rfl h
    | ok a => exact hp a rfl h

/-- a dict with these keys (as data), the keys' values, the values -/
structure DR where
  es : List (NestedKey × V × V)
  en : Array DictEntry
  ep : Nat
def dO (w : World) (a : Addr) (x : DR) : HO := .ext fun h =>
  (a == sysModules) = false ∧ x.es.length ≤ sizeLine ∧ (x.es.map (·.1)).Nodup ∧ (∀ z ∈ x.es, z.1.depth ≤ 8 ∧ ∃ ks, z.1 = .tup ks) ∧
    ∃ (o : Obj), h.get? a = some o ∧ o.ExactDict ∧ o.data = .dict x.en x.ep ∧
      Paired (fun (x : NestedKey × V × V) (e : DictEntry) => e.hash = x.1.hash w ∧ RelV x.2.1 e.key ∧ RelV x.2.2 e.val) x.es x.en.toList

/-- a pair whose first is a tuple -/
def prt : D → Option D
  | .tuple [.tuple ks, _] => some (.tuple ks)
  | _ => none
/-- alike a form: pairs, the firsts tuples, no two alike -/
def fmk : List D → Bool
  | [] => true
  | d :: ds => match prt d with
    | some k => fmk ds && ds.all fun e => match prt e with
      | some k' => !PyData.eqv k k'
      | none => false
    | none => false
/-- a tuple that is known to have no dict of its own -/
def Nice (K : PySem.W.Frag) (H : Hp) (a : Addr) : Prop := (∃ o vs, H a = some (.frz o (.tup vs)) ∧ o.dict = none) ∨ ∃ o, K.lookup a = some o ∧ o.dict = none
theorem Nice.mono {K : PySem.W.Frag} {H H' : Hp} {a : Addr} (s : Same H H') (h : Nice K H a) : Nice K H' a := by
  rcases h with ⟨o, vs, h1, h2⟩ | h
  · exact .inl ⟨o, vs, s _ _ h1, h2⟩
  · exact .inr h
theorem Nice.of {K : PySem.W.Frag} {H : Hp} {a : Addr} {o : Obj} {vs : List V} (h : o.dict = none) : Nice K (upd H a (.frz o (.tup vs))) a := .inl ⟨o, vs, upd_same, h⟩
mutual
/-- the value v stands for the datum, in the heap H -/
inductive Rp (K : PySem.W.Frag) (w : World) (H : Hp) : V → D → Prop
  | non : Rp K w H .non .none
  | bl (b : Bool) : Rp K w H (.bl b) (.bool b)
  | int (i : Int) : Rp K w H (.int i) (.int i)
  | str (x : Str) : Rp K w H (.str x) (.str x)
  | lst {a : Addr} {xs : List V} {ds : List D} : SqL K H a xs → RpA K w H xs ds → Rp K w H (.ref a) (.list ds)
  | tup {a : Addr} {xs : List V} {ds : List D} : SqT K H a xs → RpA K w H xs ds → (fmk ds = true → Nice K H a) → Rp K w H (.ref a) (.tuple ds)
  | dic {a : Addr} {x : DR} {kvs : List (D × D)} : H a = some (dO w a x) → RpE K w H x.es kvs → Rp K w H (.ref a) (.dict kvs)
inductive RpA (K : PySem.W.Frag) (w : World) (H : Hp) : List V → List D → Prop
  | nil : RpA K w H [] []
  | cons {v : V} {vs : List V} {d : D} {ds : List D} : Rp K w H v d → RpA K w H vs ds → RpA K w H (v :: vs) (d :: ds)
inductive RpE (K : PySem.W.Frag) (w : World) (H : Hp) : List (NestedKey × V × V) → List (D × D) → Prop
  | nil : RpE K w H [] []
  | cons {k : NestedKey} {kv v : V} {es : List (NestedKey × V × V)} {d : D} {kvs : List (D × D)} : Rp K w H kv k.data → Rp K w H v d → RpE K w H es kvs → RpE K w H ((k, kv, v) :: es) ((k.data, d) :: kvs)
end

theorem sqT_mono {K : PySem.W.Frag} {H H' : Hp} {a : Addr} {xs : List V} (e : Same H H') (h : SqT K H a xs) : SqT K H' a xs := by
  rcases h with (h | ⟨o, h⟩) | h
  · exact .inl (.inl (e _ _ h))
  · exact .inl (.inr ⟨o, e _ _ h⟩)
  · exact .inr h
theorem Rp.mono {K : PySem.W.Frag} {w : World} {H H' : Hp} (s : Same H H') {v : V} {d : D} (h : Rp K w H v d) : Rp K w H' v d := by
  refine Rp.rec (motive_1 := fun v d _ => Rp K w H' v d) (motive_2 := fun vs ds _ => RpA K w H' vs ds) (motive_3 := fun es kvs _ => RpE K w H' es kvs) ?_ ?_ ?_ ?_ ?_ ?_ ?_ ?_ ?_ ?_ ?_ h
  · exact .non
  · exact fun b => .bl b
  · exact fun i => .int i
  · exact fun x => .str x
  · exact fun h1 _ ih => .lst (s.seq h1) ih
  · exact fun h1 _ hn ih => .tup (sqT_mono s h1) ih fun z => (hn z).mono s
  · exact fun h1 _ ih => .dic (s _ _ h1) ih
  · exact .nil
  · exact fun _ _ i1 i2 => .cons i1 i2
  · exact .nil
  · exact fun _ _ _ i1 i2 i3 => .cons i1 i2 i3
theorem RpA.mono {K : PySem.W.Frag} {w : World} {H H' : Hp} (s : Same H H') : ∀ {vs : List V} {ds : List D}, RpA K w H vs ds → RpA K w H' vs ds
  | _, _, .nil => .nil
  | _, _, .cons h t => .cons (h.mono s) (RpA.mono s t)
theorem RpE.mono {K : PySem.W.Frag} {w : World} {H H' : Hp} (s : Same H H') : ∀ {es : List (NestedKey × V × V)} {kvs : List (D × D)}, RpE K w H es kvs → RpE K w H' es kvs
  | _, _, .nil => .nil
  | _, _, .cons h h' t => .cons (h.mono s) (h'.mono s) (RpE.mono s t)
theorem RpA.length {K : PySem.W.Frag} {w : World} {H : Hp} : ∀ {vs : List V} {ds : List D}, RpA K w H vs ds → vs.length = ds.length
  | _, _, .nil => rfl
  | _, _, .cons _ t => by simp [RpA.length t]
theorem RpA.append {K : PySem.W.Frag} {w : World} {H : Hp} : ∀ {vs us : List V} {ds es : List D}, RpA K w H vs ds → RpA K w H us es → RpA K w H (vs ++ us) (ds ++ es)
  | _, _, _, _, .nil, s => s
  | _, _, _, _, .cons h t, s => .cons h (RpA.append t s)
theorem RpA.get {K : PySem.W.Frag} {w : World} {H : Hp} : ∀ {vs : List V} {ds : List D} {i : Nat} {d : D}, RpA K w H vs ds → ds[i]? = some d → ∃ v, vs[i]? = some v ∧ Rp K w H v d
  | _, _, i, d, .nil, e => by simp at e
  | _, _, 0, d, .cons h t, e => by simp at e; subst e; exact ⟨_, rfl, h⟩
  | _, _, i + 1, d, .cons h t, e => by
    obtain ⟨v, h1, h2⟩ := RpA.get (i := i) (d := d) t (by simpa using e)
    exact ⟨v, by simpa using h1, h2⟩
theorem RpA.getV {K : PySem.W.Frag} {w : World} {H : Hp} : ∀ {vs : List V} {ds : List D} {i : Nat} {v : V}, RpA K w H vs ds → vs[i]? = some v → ∃ d, ds[i]? = some d ∧ Rp K w H v d
  | _, _, i, v, .nil, e => by simp at e
  | _, _, 0, v, .cons h t, e => by simp at e; subst e; exact ⟨_, rfl, h⟩
  | _, _, i + 1, v, .cons h t, e => by
    obtain ⟨d, h1, h2⟩ := RpA.getV (i := i) (v := v) t (by simpa using e)
    exact ⟨d, by simpa using h1, h2⟩
theorem RpA.set {K : PySem.W.Frag} {w : World} {H : Hp} {v : V} {d : D} (h : Rp K w H v d) : ∀ {vs : List V} {ds : List D} (i : Nat), RpA K w H vs ds → RpA K w H (vs.set i v) (ds.set i d)
  | _, _, _, .nil => .nil
  | _, _, 0, .cons _ t => .cons h t
  | _, _, i + 1, .cons q t => .cons q (RpA.set h i t)
theorem RpA.take {K : PySem.W.Frag} {w : World} {H : Hp} : ∀ {vs : List V} {ds : List D} (n : Nat), RpA K w H vs ds → RpA K w H (vs.take n) (ds.take n)
  | _, _, 0, _ => .nil
  | _, _, _ + 1, .nil => .nil
  | _, _, n + 1, .cons r t => .cons r (RpA.take n t)
theorem RpA.drop {K : PySem.W.Frag} {w : World} {H : Hp} : ∀ {vs : List V} {ds : List D} (n : Nat), RpA K w H vs ds → RpA K w H (vs.drop n) (ds.drop n)
  | _, _, 0, r => r
  | _, _, _ + 1, .nil => .nil
  | _, _, n + 1, .cons _ t => RpA.drop n t
theorem RpA.nil_iff {K : PySem.W.Frag} {w : World} {H : Hp} {vs : List V} {ds : List D} (h : RpA K w H vs ds) : vs = [] ↔ ds = [] := by
  cases h <;> simp

/-- a tuple -/
def Tp : HO → Prop
  | .tup _ => True
  | .frz _ (.tup _) => True
  | _ => False
/-- F, H: the frozen part and the heap; then some time later, nothing of it changed, new things and tuples frozen -/
structure Ext (F H F' H' : Hp) : Prop where
  ff : Same F F'
  hh : Same H H'
  fh : Same F' H'
  nw : ∀ a o, F' a = some o → F a = some o ∨ H a = none ∨ Tp o
theorem Ext.refl {F H : Hp} (h : Same F H) : Ext F H F H := ⟨Same.refl _, Same.refl _, h, fun _ _ e => .inl e⟩
theorem Ext.trans {F H F1 H1 F2 H2 : Hp} (a : Ext F H F1 H1) (b : Ext F1 H1 F2 H2) : Ext F H F2 H2 :=
  ⟨a.ff.trans b.ff, a.hh.trans b.hh, b.fh, fun x o e => by
    rcases b.nw x o e with q | q | q
    · exact a.nw x o q
    · exact .inr (.inl (a.hh.free q))
    · exact .inr (.inr q)⟩
theorem same_upd {H : Hp} {p : Addr} {o : HO} (h : H p = none) : Same H (upd H p o) := fun b x e => by
  rw [upd_ne (ne_of_none e h)]
  exact e
theorem same_upd2 {F H : Hp} {p : Addr} {o : HO} (s : Same F H) (h : F p = none) : Same F (upd H p o) := fun b x e => by
  rw [upd_ne (ne_of_none e h)]
  exact s b x e
/-- a new object, frozen -/
theorem Ext.newF {F H : Hp} {p : Addr} {o : HO} (s : Same F H) (h : H p = none) : Ext F H (upd F p o) (upd H p o) := by
  have hf := s.free h
  refine ⟨same_upd hf, same_upd h, fun b x e => ?_, fun b x e => ?_⟩
  · by_cases hb : b = p
    · subst hb; rw [upd_same] at e ⊢; exact e
    · rw [upd_ne hb] at e ⊢; exact s b x e
  · by_cases hb : b = p
    · subst hb; exact .inr (.inl h)
    · rw [upd_ne hb] at e; exact .inl e
/-- a new object, not frozen -/
theorem Ext.newO {F H : Hp} {p : Addr} {o : HO} (s : Same F H) (h : H p = none) : Ext F H F (upd H p o) :=
  ⟨Same.refl _, same_upd h, same_upd2 s (s.free h), fun _ _ e => .inl e⟩
/-- what is new is frozen -/
theorem Ext.freeze {F H F' H' : Hp} {p : Addr} {o : HO} (x : Ext F H F' H') (h : H p = none) (h' : H' p = some o) (hf : F' p = none) : Ext F H (upd F' p o) H' :=
  ⟨x.ff.trans (same_upd hf), x.hh, fun b y e => by
    by_cases hb : b = p
    · subst hb; rw [upd_same] at e; cases e; exact h'
    · rw [upd_ne hb] at e; exact x.fh b y e, fun b y e => by
    by_cases hb : b = p
    · subst hb; exact .inr (.inl h)
    · rw [upd_ne hb] at e; exact x.nw b y e⟩

/-- a list or a dict whose items are frozen, itself as it stands in H -/
def Ow (K : PySem.W.Frag) (w : World) (F H : Hp) (v : V) (d : D) : Prop :=
  ∃ a, v = .ref a ∧ ((∃ vs ds, d = .list ds ∧ H a = some (.lst vs) ∧ RpA K w F vs ds) ∨ ∃ (es : DR) (kvs : List (D × D)), d = .dict kvs ∧ H a = some (dO w a es) ∧ RpE K w F es.es kvs)
theorem Ow.mono {K : PySem.W.Frag} {w : World} {F H F' H' : Hp} {v : V} {d : D} (x : Ow K w F H v d) (sf : Same F F') (sh : Same H H') : Ow K w F' H' v d := by
  obtain ⟨a, e, ⟨vs, ds, e1, e2, r⟩ | ⟨es, kvs, e1, e2, r⟩⟩ := x
  · exact ⟨a, e, .inl ⟨vs, ds, e1, sh _ _ e2, r.mono sf⟩⟩
  · exact ⟨a, e, .inr ⟨es, kvs, e1, sh _ _ e2, r.mono sf⟩⟩
/-- .. its object -/
theorem Ow.obj {K : PySem.W.Frag} {w : World} {F H : Hp} {v : V} {d : D} (x : Ow K w F H v d) : ∃ a o, v = .ref a ∧ H a = some o := by
  obtain ⟨a, e, ⟨vs, ds, e1, e2, r⟩ | ⟨es, kvs, e1, e2, r⟩⟩ := x
  · exact ⟨a, _, e, e2⟩
  · exact ⟨a, _, e, e2⟩
theorem Ow.notTp {K : PySem.W.Frag} {w : World} {F H : Hp} {a : Addr} {o : HO} {d : D} (x : Ow K w F H (.ref a) d) (ho : H a = some o) : ¬ Tp o := by
  obtain ⟨b, e, ⟨vs, ds, e1, e2, r⟩ | ⟨es, kvs, e1, e2, r⟩⟩ := x
  · cases e
    rw [e2] at ho; cases ho
    exact id
  · cases e
    rw [e2] at ho; cases ho
    exact id
/-- frozen -/
theorem Ow.rp {K : PySem.W.Frag} {w : World} {F H : Hp} {a : Addr} {o : HO} {d : D} (x : Ow K w F H (.ref a) d) (ho : H a = some o) (hf : F a = none) : Rp K w (upd F a o) (.ref a) d := by
  obtain ⟨b, e, ⟨vs, ds, e1, e2, r⟩ | ⟨es, kvs, e1, e2, r⟩⟩ := x
  · cases e
    rw [e2] at ho; cases ho; subst e1
    exact .lst (.inl (.inl upd_same)) (r.mono (same_upd hf))
  · cases e
    rw [e2] at ho; cases ho; subst e1
    exact .dic upd_same (r.mono (same_upd hf))
/-- as it stands: all of it frozen, or its items -/
def Sh (K : PySem.W.Frag) (w : World) (F H : Hp) (v : V) (d : D) : Prop := Rp K w F v d ∨ Ow K w F H v d
theorem Sh.mono {K : PySem.W.Frag} {w : World} {F H F' H' : Hp} {v : V} {d : D} (x : Sh K w F H v d) (sf : Same F F') (sh : Same H H') : Sh K w F' H' v d :=
  x.imp (fun r => r.mono sf) fun r => r.mono sf sh
theorem Ow.all {K : PySem.W.Frag} {w : World} {F H : Hp} {v : V} {d : D} (x : Ow K w F H v d) (s : Same F H) : Rp K w H v d := by
  obtain ⟨a, e, ⟨vs, ds, e1, e2, r⟩ | ⟨es, kvs, e1, e2, r⟩⟩ := x
  · subst e e1; exact .lst (.inl (.inl e2)) (r.mono s)
  · subst e e1; exact .dic e2 (r.mono s)
theorem Sh.all {K : PySem.W.Frag} {w : World} {F H : Hp} {v : V} {d : D} (x : Sh K w F H v d) (s : Same F H) : Rp K w H v d := by
  rcases x with x | x
  · exact x.mono s
  · exact x.all s
/-- a list: its items -/
theorem Sh.list {K : PySem.W.Frag} {w : World} {F H : Hp} {v : V} {ds : List D} (x : Sh K w F H v (.list ds)) (s : Same F H) : ∃ a vs, v = .ref a ∧ SqL K H a vs ∧ RpA K w F vs ds := by
  rcases x with x | ⟨a, e, ⟨vs, es, e1, e2, r⟩ | ⟨es, kvs, e1, e2, r⟩⟩
  · cases x with
    | lst h r => exact ⟨_, _, rfl, s.seq h, r⟩
  · cases e1; exact ⟨a, vs, e, .inl (.inl e2), r⟩
  · cases e1
theorem Sh.tuple {K : PySem.W.Frag} {w : World} {F H : Hp} {v : V} {ds : List D} (x : Sh K w F H v (.tuple ds)) (s : Same F H) : ∃ a vs, v = .ref a ∧ SqT K H a vs ∧ RpA K w F vs ds := by
  rcases x with x | ⟨a, e, ⟨vs, es, e1, e2, r⟩ | ⟨es, kvs, e1, e2, r⟩⟩
  · cases x with
    | tup h r _ => exact ⟨_, _, rfl, sqT_mono s h, r⟩
  · cases e1
  · cases e1
theorem Sh.int {K : PySem.W.Frag} {w : World} {F H : Hp} {v : V} {i : Int} (x : Sh K w F H v (.int i)) : v = .int i := by
  rcases x with x | ⟨a, e, ⟨vs, es, e1, e2, r⟩ | ⟨es, kvs, e1, e2, r⟩⟩
  · cases x; rfl
  · cases e1
  · cases e1
theorem Sh.str {K : PySem.W.Frag} {w : World} {F H : Hp} {v : V} {i : Str} (x : Sh K w F H v (.str i)) : v = .str i := by
  rcases x with x | ⟨a, e, ⟨vs, es, e1, e2, r⟩ | ⟨es, kvs, e1, e2, r⟩⟩
  · cases x; rfl
  · cases e1
  · cases e1
theorem Sh.bool {K : PySem.W.Frag} {w : World} {F H : Hp} {v : V} {i : Bool} (x : Sh K w F H v (.bool i)) : v = .bl i := by
  rcases x with x | ⟨a, e, ⟨vs, es, e1, e2, r⟩ | ⟨es, kvs, e1, e2, r⟩⟩
  · cases x; rfl
  · cases e1
  · cases e1
theorem Sh.none_iff {K : PySem.W.Frag} {w : World} {F H : Hp} {v : V} {d : D} (x : Sh K w F H v d) : decide (v = .non) = (match d with | .none => true | _ => false) := by
  rcases x with x | ⟨a, e, ⟨vs, es, e1, e2, r⟩ | ⟨es, kvs, e1, e2, r⟩⟩
  · cases x <;> simp
  · subst e e1; simp
  · subst e e1; simp

/-- how a value comes: frozen | as it stands | a new list or dict, the asker's own -/
inductive Md where
  | v | s | o
  deriving DecidableEq
def RM (K : PySem.W.Frag) (w : World) (H F' H' : Hp) : Md → V → D → Prop
  | .v, v, d => Rp K w F' v d
  | .s, v, d => Sh K w F' H' v d
  | .o, v, d => Ow K w F' H' v d ∧ ∃ a, v = .ref a ∧ H a = none ∧ F' a = none

/-! ### slots -/
inductive Sl where
  | fz (d : D)
  | ow (d : D)
  /-- the error that an except clause holds -/
  | xp
  /-- a dict handed in to be changed -/
  | pn (d : D)
/-- what may be changed -/
def Sl.mut : Sl → Bool
  | .ow _ => true
  | .pn _ => true
  | _ => false
abbrev DEnv := List (Option Sl)
/-- the entry -/
structure Bs (hd : Option Value) where
  F : Hp
  H : Hp
  pin : Option Addr := none
def SlOk {hd : Option Value} (K : PySem.W.Frag) (w : World) (B : Bs hd) (F H : Hp) (v : V) : Sl → Prop
  | .fz d => Rp K w F v d
  | .ow d => Ow K w F H v d ∧ ∃ a, v = .ref a ∧ B.H a = none ∧ F a = none
  | .xp => ∃ a, hd = some (.ref a) ∧ v = .ref a
  | .pn d => Ow K w F H v d ∧ ∃ a, v = .ref a ∧ B.H a = none ∧ F a = none ∧ B.pin = some a
structure EnvOk {hd : Option Value} (K : PySem.W.Frag) (w : World) (B : Bs hd) (F H : Hp) (σ : L2.St) (env : DEnv) : Prop where
  ext : Ext B.F B.H F H
  len : env.length = σ.length
  sl : ∀ (i : Nat) (s : Sl), env[i]? = some (some s) → ∃ v, σ[i]? = some (some v) ∧ SlOk K w B F H v s
  ap : ∀ (i j : Nat) (d e : Sl) (a : Addr), i ≠ j → d.mut = true → e.mut = true → env[i]? = some (some d) → env[j]? = some (some e) → σ[i]? = some (some (.ref a)) → σ[j]? = some (some (.ref a)) → False
section
variable {K : PySem.W.Frag} {w : World} {hd : Option Value} {B : Bs hd} {F H F' H' : Hp} {σ : L2.St} {env : DEnv}
theorem EnvOk.fh (x : EnvOk K w B F H σ env) : Same F H := x.ext.fh
theorem EnvOk.mono (x : EnvOk K w B F H σ env) (e : Ext F H F' H') : EnvOk K w B F' H' σ env := by
  refine ⟨x.ext.trans e, x.len, fun i s q => ?_, x.ap⟩
  obtain ⟨v, h1, h2⟩ := x.sl i s q
  refine ⟨v, h1, ?_⟩
  cases s with
  | xp => exact h2
  | fz d => exact Rp.mono e.ff h2
  | ow d =>
    obtain ⟨h3, a, h4, h5, h6⟩ := h2
    refine ⟨h3.mono e.ff e.hh, a, h4, h5, ?_⟩
    cases q : F' a with
    | none => rfl
    | some o =>
      obtain ⟨b, o', h7, h8⟩ := h3.obj
      rw [h4] at h7; cases h7
      rcases e.nw a o q with z | z | z
      · rw [h6] at z; cases z
      · rw [h8] at z; cases z
      · have e1 := e.fh _ _ q
        rw [e.hh _ _ h8] at e1; cases e1
        subst h4
        exact absurd z (h3.notTp h8)
  | pn d =>
    obtain ⟨h3, a, h4, h5, h6, hpn⟩ := h2
    refine ⟨h3.mono e.ff e.hh, a, h4, h5, ?_, hpn⟩
    cases q : F' a with
    | none => rfl
    | some o =>
      obtain ⟨b, o', h7, h8⟩ := h3.obj
      rw [h4] at h7; cases h7
      rcases e.nw a o q with z | z | z
      · rw [h6] at z; cases z
      · rw [h8] at z; cases z
      · have e1 := e.fh _ _ q
        rw [e.hh _ _ h8] at e1; cases e1
        subst h4
        exact absurd z (h3.notTp h8)
/-- a mutable slot has its object -/
theorem EnvOk.mutObj (x : EnvOk K w B F H σ env) {i : Nat} {s : Sl} (hm : s.mut = true) (q : env[i]? = some (some s)) : ∃ a o, σ[i]? = some (some (.ref a)) ∧ H a = some o ∧ B.H a = none ∧ F a = none := by
  obtain ⟨v, h1, h2⟩ := x.sl i s q
  cases s with
  | xp => cases hm
  | fz d => cases hm
  | ow d =>
    obtain ⟨h3, a, rfl, h5, h6⟩ := h2
    obtain ⟨b, o, h7, h8⟩ := h3.obj
    cases h7
    exact ⟨_, o, h1, h8, h5, h6⟩
  | pn d =>
    obtain ⟨h3, a, rfl, h5, h6, _⟩ := h2
    obtain ⟨b, o, h7, h8⟩ := h3.obj
    cases h7
    exact ⟨_, o, h1, h8, h5, h6⟩
/-- a frozen value is stored -/
theorem EnvOk.setF (x : EnvOk K w B F H σ env) {i : Nat} {v : V} {d : D} (h : Rp K w F v d) : EnvOk K w B F H (σ.set i (some v)) (env.set i (some (.fz d))) := by
  refine ⟨x.ext, by simpa using x.len, fun j s q => ?_, fun j k d' e' a hjk m1 m2 h1 h2 h3 h4 => ?_⟩
  · by_cases hj : i = j
    · subst hj
      by_cases hl : i < env.length
      · rw [List.getElem?_set_self hl] at q
        cases q
        exact ⟨v, List.getElem?_set_self (by rw [← x.len]; exact hl), h⟩
      · rw [List.getElem?_eq_none (by simpa using hl)] at q; cases q
    · rw [List.getElem?_set_ne hj] at q ⊢
      exact x.sl j s q
  · have n1 : i ≠ j := by
      rintro rfl
      by_cases hl : i < env.length
      · rw [List.getElem?_set_self hl] at h1; cases h1; cases m1
      · rw [List.getElem?_eq_none (by simpa using hl)] at h1; cases h1
    have n2 : i ≠ k := by
      rintro rfl
      by_cases hl : i < env.length
      · rw [List.getElem?_set_self hl] at h2; cases h2; cases m2
      · rw [List.getElem?_eq_none (by simpa using hl)] at h2; cases h2
    rw [List.getElem?_set_ne n1] at h1 h3
    rw [List.getElem?_set_ne n2] at h2 h4
    exact x.ap j k d' e' a hjk m1 m2 h1 h2 h3 h4
/-- a new list or dict of one's own is stored -/
theorem EnvOk.setO (x : EnvOk K w B F H σ env) {i : Nat} {a : Addr} {d : D} (h : Ow K w F' H' (.ref a) d) (e : Ext F H F' H') (hb : H a = none) (hf : F' a = none) : EnvOk K w B F' H' (σ.set i (some (.ref a))) (env.set i (some (.ow d))) := by
  have y := x.mono e
  refine ⟨y.ext, by simpa using x.len, fun j s q => ?_, fun j k d' e' b hjk m1 m2 h1 h2 h3 h4 => ?_⟩
  · by_cases hj : i = j
    · subst hj
      by_cases hl : i < env.length
      · rw [List.getElem?_set_self hl] at q
        cases q
        exact ⟨_, List.getElem?_set_self (by rw [← x.len]; exact hl), h, a, rfl, x.ext.hh.free hb, hf⟩
      · rw [List.getElem?_eq_none (by simpa using hl)] at q; cases q
    · rw [List.getElem?_set_ne hj] at q ⊢
      exact y.sl j s q
  · have old : ∀ (m : Nat) (dm : Sl) (bm : Addr), dm.mut = true → env[m]? = some (some dm) → σ[m]? = some (some (.ref bm)) → bm ≠ a := fun m dm bm p0 p1 p3 z => by
      obtain ⟨c, o, h5, h8, _⟩ := x.mutObj p0 p1
      rw [p3] at h5; cases h5
      rw [z, hb] at h8; cases h8
    by_cases n1 : i = j
    · subst n1
      rw [List.getElem?_set_ne hjk] at h2 h4
      have hl : i < σ.length := by
        rcases Nat.lt_or_ge i σ.length with z | z
        · exact z
        · rw [List.getElem?_eq_none (by simpa using z)] at h3; cases h3
      rw [List.getElem?_set_self hl] at h3
      cases h3
      exact old k e' _ m2 h2 h4 rfl
    · rw [List.getElem?_set_ne n1] at h1 h3
      by_cases n2 : i = k
      · subst n2
        have hl : i < σ.length := by
          rcases Nat.lt_or_ge i σ.length with z | z
          · exact z
          · rw [List.getElem?_eq_none (by simpa using z)] at h4; cases h4
        rw [List.getElem?_set_self hl] at h4
        cases h4
        exact old j d' _ m1 h1 h3 rfl
      · rw [List.getElem?_set_ne n2] at h2 h4
        exact x.ap j k d' e' b hjk m1 m2 h1 h2 h3 h4
/-- a slot is forgotten, on both sides -/
theorem EnvOk.drop (x : EnvOk K w B F H σ env) (i : Nat) (o : Option V) : EnvOk K w B F H (σ.set i o) (env.set i none) := by
  have no : ∀ s, (env.set i none)[i]? ≠ some (some s) := fun s q => by
    by_cases hl : i < env.length
    · rw [List.getElem?_set_self hl] at q; cases q
    · rw [List.getElem?_eq_none (by simpa using hl)] at q; cases q
  refine ⟨x.ext, by simpa using x.len, fun j s q => ?_, fun j k d' e' a hjk m1 m2 h1 h2 h3 h4 => ?_⟩
  · by_cases hj : i = j
    · subst hj; exact absurd q (no s)
    · rw [List.getElem?_set_ne hj] at q ⊢
      exact x.sl j s q
  · have n1 : i ≠ j := by rintro rfl; exact no _ h1
    have n2 : i ≠ k := by rintro rfl; exact no _ h2
    rw [List.getElem?_set_ne n1] at h1 h3
    rw [List.getElem?_set_ne n2] at h2 h4
    exact x.ap j k d' e' a hjk m1 m2 h1 h2 h3 h4
/-- a slot's own list is frozen -/
def frzE (i : Nat) (env : DEnv) : DEnv := match env[i]? with
  | some (some (.ow d)) => env.set i (some (.fz d))
  | _ => env
theorem EnvOk.freeze (x : EnvOk K w B F H σ env) (i : Nat) : ∃ F', Same F F' ∧ EnvOk K w B F' H σ (frzE i env) := by
  unfold frzE
  split
  · rename_i d q
    obtain ⟨v, h1, h2, a, rfl, h4, h5⟩ := x.sl i _ q
    obtain ⟨b, o, h6, h7⟩ := h2.obj
    cases h6
    have ex : Ext B.F B.H (upd F a o) H := x.ext.freeze h4 h7 h5
    have sf : Same F (upd F a o) := same_upd h5
    have hlen : i < env.length := by
      rcases Nat.lt_or_ge i env.length with z | z
      · exact z
      · rw [List.getElem?_eq_none z] at q; cases q
    refine ⟨upd F a o, sf, ex, by simpa using x.len, fun j s r => ?_, fun j k d' e' c hjk m1 m2 g1 g2 g3 g4 => ?_⟩
    · by_cases hj : i = j
      · subst hj
        rw [List.getElem?_set_self hlen] at r
        cases r
        exact ⟨_, h1, h2.rp h7 h5⟩
      · rw [List.getElem?_set_ne hj] at r
        obtain ⟨u, g1, g2⟩ := x.sl j s r
        refine ⟨u, g1, ?_⟩
        cases s with
        | xp => exact g2
        | fz e => exact Rp.mono sf g2
        | ow e =>
          obtain ⟨g3, c, g4, g5, g6⟩ := g2
          refine ⟨g3.mono sf (Same.refl _), c, g4, g5, ?_⟩
          rw [upd_ne ?_]
          · exact g6
          · rintro rfl
            subst g4
            exact x.ap i j _ _ c hj rfl rfl q r h1 g1
        | pn e =>
          obtain ⟨g3, c, g4, g5, g6, gp⟩ := g2
          refine ⟨g3.mono sf (Same.refl _), c, g4, g5, ?_, gp⟩
          rw [upd_ne ?_]
          · exact g6
          · rintro rfl
            subst g4
            exact x.ap i j _ _ c hj rfl rfl q r h1 g1
    · have n1 : i ≠ j := by rintro rfl; rw [List.getElem?_set_self hlen] at g1; cases g1; cases m1
      have n2 : i ≠ k := by rintro rfl; rw [List.getElem?_set_self hlen] at g2; cases g2; cases m2
      rw [List.getElem?_set_ne n1] at g1
      rw [List.getElem?_set_ne n2] at g2
      exact x.ap j k d' e' c hjk m1 m2 g1 g2 g3 g4
  · exact ⟨F, Same.refl _, x⟩
/-- a slot's own list or dict is changed -/
theorem EnvOk.writeM (x : EnvOk K w B F H σ env) {i : Nat} {a : Addr} {t t' : Sl} {o : HO} (hm : t.mut = true) (hm' : t'.mut = true) (q : env[i]? = some (some t)) (hs : σ[i]? = some (some (.ref a))) (h : SlOk K w B F (upd H a o) (.ref a) t') :
    EnvOk K w B F (upd H a o) σ (env.set i (some t')) := by
  obtain ⟨b, o1, h1, h7, h4, h5⟩ := x.mutObj hm q
  rw [hs] at h1; cases h1
  have hlen : i < env.length := by
    rcases Nat.lt_or_ge i env.length with z | z
    · exact z
    · rw [List.getElem?_eq_none z] at q; cases q
  have ex : Ext B.F B.H F (upd H a o) := ⟨x.ext.ff, same_upd2 x.ext.hh h4, same_upd2 x.ext.fh h5, x.ext.nw⟩
  have keep : ∀ {c : Addr} {e : D}, c ≠ a → Ow K w F H (.ref c) e → Ow K w F (upd H a o) (.ref c) e := fun {c e} nca g3 => by
    obtain ⟨b, e0, ⟨vs, ds, e1, e2, r'⟩ | ⟨es, kvs, e1, e2, r'⟩⟩ := g3
    · cases e0
      exact ⟨c, rfl, .inl ⟨vs, ds, e1, by rw [upd_ne nca]; exact e2, r'⟩⟩
    · cases e0
      exact ⟨c, rfl, .inr ⟨es, kvs, e1, by rw [upd_ne nca]; exact e2, r'⟩⟩
  refine ⟨ex, by simpa using x.len, fun j s r => ?_, fun j k e e' c hjk m1 m2 g1 g2 g3 g4 => ?_⟩
  · by_cases hj : i = j
    · subst hj
      rw [List.getElem?_set_self hlen] at r
      cases r
      exact ⟨_, hs, h⟩
    · rw [List.getElem?_set_ne hj] at r
      obtain ⟨u, g1, g2⟩ := x.sl j s r
      refine ⟨u, g1, ?_⟩
      cases s with
      | xp => exact g2
      | fz e => exact g2
      | ow e =>
        obtain ⟨g3, c, g4, g5, g6⟩ := g2
        subst g4
        have nca : c ≠ a := by rintro rfl; exact x.ap i j _ _ c hj hm rfl q r hs g1
        exact ⟨keep nca g3, c, rfl, g5, g6⟩
      | pn e =>
        obtain ⟨g3, c, g4, g5, g6⟩ := g2
        subst g4
        have nca : c ≠ a := by rintro rfl; exact x.ap i j _ _ c hj hm rfl q r hs g1
        exact ⟨keep nca g3, c, rfl, g5, g6⟩
  · by_cases n1 : i = j
    · subst n1
      rw [List.getElem?_set_ne hjk] at g2
      exact x.ap i k _ e' c hjk hm m2 q g2 g3 g4
    · rw [List.getElem?_set_ne n1] at g1
      by_cases n2 : i = k
      · subst n2
        exact x.ap j i e _ c hjk m1 hm g1 q g3 g4
      · rw [List.getElem?_set_ne n2] at g2
        exact x.ap j k e e' c hjk m1 m2 g1 g2 g3 g4
theorem EnvOk.write (x : EnvOk K w B F H σ env) {i : Nat} {a : Addr} {d d' : D} {o : HO} (q : env[i]? = some (some (.ow d))) (hs : σ[i]? = some (some (.ref a))) (h : Ow K w F (upd H a o) (.ref a) d') :
    EnvOk K w B F (upd H a o) σ (env.set i (some (.ow d'))) := by
  obtain ⟨v, h1, h2, b, rfl, h4, h5⟩ := x.sl i _ q
  rw [hs] at h1; cases h1
  exact x.writeM (t' := .ow d') rfl rfl q hs ⟨h, a, rfl, h4, h5⟩
end
end DL

/-! The data layer, part 2: == of data without dicts, whatever the texts are. -/
namespace DL
open PySem PySem.Spec PyProof.Rows L2

mutual
/-- no dict within -/
def noD : D → Bool
  | .none => true
  | .bool _ => true
  | .int _ => true
  | .str _ => true
  | .list xs => noDs xs
  | .tuple xs => noDs xs
  | .dict _ => false
def noDs : List D → Bool
  | [] => true
  | x :: xs => noD x && noDs xs
end
section
open PySem.SeqAt
mutual
theorem same_eqv {h : Heap} : ∀ (x y : D) (v : Value) (as bs : List Addr), Reads h v x as → Reads h v y bs → noD x = true → PyData.eqv x y = true
  | .none, _, _, _, _, ra, rb, _ => by cases ra; cases rb; rfl
  | .bool b, _, _, _, _, ra, rb, _ => by cases ra; cases rb; simp [PyData.eqv]
  | .int i, _, _, _, _, ra, rb, _ => by cases ra; cases rb; simp [PyData.eqv]
  | .str x, _, _, _, _, ra, rb, _ => by cases ra; cases rb; simp [PyData.eqv]
  | .list xs, _, _, _, _, ra, rb, hn => by
    cases ra with
    | list h1 h2 h3 h4 =>
      cases rb with
      | list k1 k2 k3 k4 =>
        rw [h1] at k1; cases k1
        rw [h3] at k3; cases k3
        exact same_eqvs xs _ _ _ _ h4 k4 (by simpa [noD] using hn)
      | tuple k1 k2 k3 k4 =>
        rw [h1] at k1; cases k1
        rw [h2] at k2; injection k2 with k2; exact absurd k2 (by decide)
      | dict k1 k2 k3 k4 k5 =>
        rw [h1] at k1; cases k1
        rw [h2] at k2; injection k2 with k2; exact absurd k2 (by decide)
  | .tuple xs, _, _, _, _, ra, rb, hn => by
    cases ra with
    | tuple h1 h2 h3 h4 =>
      cases rb with
      | list k1 k2 k3 k4 =>
        rw [h1] at k1; cases k1
        rw [h2] at k2; injection k2 with k2; exact absurd k2 (by decide)
      | tuple k1 k2 k3 k4 =>
        rw [h1] at k1; cases k1
        rw [h3] at k3; cases k3
        exact same_eqvs xs _ _ _ _ h4 k4 (by simpa [noD] using hn)
      | dict k1 k2 k3 k4 k5 =>
        rw [h1] at k1; cases k1
        rw [h2] at k2; injection k2 with k2; exact absurd k2 (by decide)
  | .dict _, _, _, _, _, _, _, hn => by simp [noD] at hn
theorem same_eqvs {h : Heap} : ∀ (xs ys : List D) (vs : List Value) (as bs : List Addr), ReadsAll h vs xs as → ReadsAll h vs ys bs → noDs xs = true → PyData.eqvAll xs ys = true
  | [], _, _, _, _, ra, rb, _ => by cases ra; cases rb; rfl
  | x :: xs, _, _, _, _, ra, rb, hn => by
    cases ra with
    | cons r1 r2 =>
      cases rb with
      | cons q1 q2 =>
        have hn' : noD x = true ∧ noDs xs = true := by simpa [noDs] using hn
        rw [PyData.eqvAll, same_eqv x _ _ _ _ r1 q1 hn'.1, same_eqvs xs _ _ _ _ r2 q2 hn'.2]
        rfl
end
abbrev prEq (xs ys : List D) (j : Nat) : Bool := PyData.eqv (xs.getD j .none) (ys.getD j .none)
theorem eqvs_range : ∀ xs ys : List D, ((List.range (min xs.length ys.length)).all (prEq xs ys) && xs.length == ys.length) = PyData.eqvAll xs ys
  | [], [] => rfl
  | [], _ :: _ => by simp [PyData.eqvAll]
  | _ :: _, [] => by simp [PyData.eqvAll]
  | x :: xs, y :: ys => by
    have ih := eqvs_range xs ys
    have e1 : min (x :: xs).length (y :: ys).length = min xs.length ys.length + 1 := by simp only [List.length_cons]; omega
    have e2 : ((x :: xs).length == (y :: ys).length) = (xs.length == ys.length) := by simp
    have e3 : (List.range (min xs.length ys.length + 1)).all (prEq (x :: xs) (y :: ys)) = (PyData.eqv x y && (List.range (min xs.length ys.length)).all (prEq xs ys)) := by
      rw [List.range_succ_eq_map, List.all_cons, List.all_map]
      first | rfl | simp [prEq, Function.comp_def]
    rw [e1, e2, e3, PyData.eqvAll, ← ih, Bool.and_assoc]
theorem eqvs_len {xs ys : List D} (h : xs.length ≠ ys.length) : PyData.eqvAll xs ys = false := by
  rw [← eqvs_range]
  simp [h]
theorem eqvs_same {xs ys : List D} (h : xs.length = ys.length) : (List.range xs.length).all (prEq xs ys) = PyData.eqvAll xs ys := by
  rw [← eqvs_range]
  simp [h]
theorem rdAll_len {h : Heap} : ∀ (xs : List D) (vs : List Value) (as : List Addr), ReadsAll h vs xs as → vs.length = xs.length
  | [], _, _, r => by cases r; rfl
  | _ :: xs, _, _, r => by
    cases r with
    | cons _ r' => simp [rdAll_len xs _ _ r']
mutual
theorem eq_rd : ∀ (x y : D) (A : Around) (s : Shared) (a b : Value) (as bs : List Addr), Reads s.heap a x as → Reads s.heap b y bs → noD x = true → noD y = true → A.units + min x.depth y.depth < cLine → EqAt A s a b (PyData.eqv x y)
  | .none, _, A, s, _, _, _, _, ra, rb, _, hy, hu => by
    cases ra
    cases rb with
    | none => exact EqAt.same _
    | bool z => exact EqAt.none_bool z
    | int z u => exact EqAt.none_int z u
    | str z u => exact EqAt.none_str z u
    | list k1 k2 k3 k4 => exact EqAt.none_list ⟨_, k1, k2, _, k3⟩ (room_here hu)
    | tuple k1 k2 k3 k4 => exact EqAt.none_tuple ⟨_, k1, k2, _, k3⟩ (room_here hu)
    | dict => exact nomatch hy
  | .bool x, _, A, s, _, _, _, _, ra, rb, _, hy, hu => by
    cases ra
    cases rb with
    | none => exact EqAt.bool_none x
    | bool z => exact EqAt.bool_bool x z
    | int z u => exact EqAt.bool_int x z u
    | str z u => exact EqAt.bool_str x z u
    | list k1 k2 k3 k4 => exact EqAt.bool_list x ⟨_, k1, k2, _, k3⟩ (room_here hu)
    | tuple k1 k2 k3 k4 => exact EqAt.bool_tuple x ⟨_, k1, k2, _, k3⟩ (room_here hu)
    | dict => exact nomatch hy
  | .int x, _, A, s, _, _, _, _, ra, rb, _, hy, hu => by
    cases ra with
    | int _ t =>
      cases rb with
      | none => exact EqAt.int_none x t
      | bool z => exact EqAt.int_bool x t z
      | int z u => exact EqAt.int_int x t z u
      | str z u => exact EqAt.int_str x t z u
      | list k1 k2 k3 k4 => exact EqAt.int_list x t ⟨_, k1, k2, _, k3⟩ (room_here hu)
      | tuple k1 k2 k3 k4 => exact EqAt.int_tuple x t ⟨_, k1, k2, _, k3⟩ (room_here hu)
      | dict => exact nomatch hy
  | .str x, _, A, s, _, _, _, _, ra, rb, _, hy, hu => by
    cases ra with
    | str _ t =>
      cases rb with
      | none => exact EqAt.str_none x t
      | bool z => exact EqAt.str_bool x t z
      | int z u => exact EqAt.str_int x t z u
      | str z u => exact EqAt.str_str x t z u
      | list k1 k2 k3 k4 => exact EqAt.str_list x t ⟨_, k1, k2, _, k3⟩ (room_here hu)
      | tuple k1 k2 k3 k4 => exact EqAt.str_tuple x t ⟨_, k1, k2, _, k3⟩ (room_here hu)
      | dict => exact nomatch hy
  | .list xs, _, A, s, _, _, _, _, ra, rb, hx, hy, hu => by
    cases ra with
    | @list l o vs n _ as1 h1 h2 h3 h4 =>
      have hl : s.heap.IsList l vs := ⟨_, h1, h2, _, h3⟩
      cases rb with
      | none => exact EqAt.list_none hl (room_here hu)
      | bool z => exact EqAt.list_bool z hl (room_here hu)
      | int z u => exact EqAt.list_int z u hl (room_here hu)
      | str z u => exact EqAt.list_str z u hl (room_here hu)
      | tuple k1 k2 k3 k4 => exact EqAt.list_tuple hl ⟨_, k1, k2, _, k3⟩ (room_here hu)
      | dict => exact nomatch hy
      | @list l' o' vs' n' ys bs1 k1 k2 k3 k4 =>
        have hl' : s.heap.IsList l' vs' := ⟨_, k1, k2, _, k3⟩
        have n1 : vs.size = xs.length := by simpa using rdAll_len _ _ _ h4
        have n2 : vs'.size = ys.length := by simpa using rdAll_len _ _ _ k4
        show EqAt A s (.ref l) (.ref l') (PyData.eqvAll xs ys)
        have hx' : noDs xs = true := by simpa [noD] using hx
        have hy' : noDs ys = true := by simpa [noD] using hy
        by_cases hll : l = l'
        · subst hll
          rw [h1] at k1; cases k1
          rw [h3] at k3; cases k3
          rw [same_eqvs xs ys _ _ _ h4 k4 hx']
          exact EqAt.same _
        · by_cases hsz : vs.size = vs'.size
          · rw [← eqvs_same (by omega : xs.length = ys.length), ← n1]
            refine EqAt.of_refs hll (RcAt.lists hl hl' hsz (room_here hu) fun j j1 j2 => ?_)
            have := eq_rds xs ys A.in1 s vs.toList vs'.toList _ _ h4 k4 hx' hy' (room_in hu) j (by simpa using j1) (by simpa using j2)
            simpa using this
          · rw [eqvs_len (by omega : xs.length ≠ ys.length)]
            exact EqAt.of_refs hll (RcAt.lists_lengths hl hl' (by simpa using hsz) (room_here hu))
  | .tuple xs, _, A, s, _, _, _, _, ra, rb, hx, hy, hu => by
    cases ra with
    | @tuple l o vs n _ as1 h1 h2 h3 h4 =>
      have hl : s.heap.IsTuple l vs := ⟨_, h1, h2, _, h3⟩
      cases rb with
      | none => exact EqAt.tuple_none hl (room_here hu)
      | bool z => exact EqAt.tuple_bool z hl (room_here hu)
      | int z u => exact EqAt.tuple_int z u hl (room_here hu)
      | str z u => exact EqAt.tuple_str z u hl (room_here hu)
      | list k1 k2 k3 k4 => exact EqAt.tuple_list hl ⟨_, k1, k2, _, k3⟩ (room_here hu)
      | dict => exact nomatch hy
      | @tuple l' o' vs' n' ys bs1 k1 k2 k3 k4 =>
        have hl' : s.heap.IsTuple l' vs' := ⟨_, k1, k2, _, k3⟩
        have n1 : vs.size = xs.length := by simpa using rdAll_len _ _ _ h4
        have n2 : vs'.size = ys.length := by simpa using rdAll_len _ _ _ k4
        show EqAt A s (.ref l) (.ref l') (PyData.eqvAll xs ys)
        have hx' : noDs xs = true := by simpa [noD] using hx
        have hy' : noDs ys = true := by simpa [noD] using hy
        by_cases hll : l = l'
        · subst hll
          rw [h1] at k1; cases k1
          rw [h3] at k3; cases k3
          rw [same_eqvs xs ys _ _ _ h4 k4 hx']
          exact EqAt.same _
        · rw [← eqvs_range xs ys, ← n1, ← n2]
          refine EqAt.of_refs hll (RcAt.tuples hl hl' (room_here hu) fun j j1 j2 => ?_)
          have := eq_rds xs ys A.in1 s vs.toList vs'.toList _ _ h4 k4 hx' hy' (room_in hu) j (by simpa using j1) (by simpa using j2)
          simpa using this
  | .dict _, _, _, _, _, _, _, _, _, _, hx, _, _ => nomatch hx
theorem eq_rds : ∀ (xs ys : List D) (A : Around) (s : Shared) (vs ws : List Value) (as bs : List Addr), ReadsAll s.heap vs xs as → ReadsAll s.heap ws ys bs → noDs xs = true → noDs ys = true →
    A.units + min (PyData.depthAll xs) (PyData.depthAll ys) < cLine → ∀ j (h1 : j < vs.length) (h2 : j < ws.length), EqAt A s vs[j] ws[j] (prEq xs ys j)
  | [], _, _, _, _, _, _, _, ra, _, _, _, _, j, h1, _ => by cases ra; exact absurd h1 (Nat.not_lt_zero _)
  | _ :: _, [], _, _, _, _, _, _, _, rb, _, _, _, j, _, h2 => by cases rb; exact absurd h2 (Nat.not_lt_zero _)
  | x :: xs, y :: ys, A, s, _, _, _, _, ra, rb, hx, hy, hu, j, h1, h2 => by
    have hx' : noD x = true ∧ noDs xs = true := by simpa [noDs] using hx
    have hy' : noD y = true ∧ noDs ys = true := by simpa [noDs] using hy
    cases ra with
    | cons r rs =>
      cases rb with
      | cons r' rs' =>
        cases j with
        | zero => exact eq_rd x y A s _ _ _ _ r r' hx'.1 hy'.1 (room_head hu)
        | succ j => exact eq_rds xs ys A s _ _ _ _ rs rs' hx'.2 hy'.2 (room_tail hu) j (Nat.lt_of_succ_lt_succ h1) (Nat.lt_of_succ_lt_succ h2)
end
theorem rc_rd {x y : D} {A : Around} {s : Shared} {a b : Value} {as bs : List Addr} (ra : Reads s.heap a x as) (rb : Reads s.heap b y bs) (hx : noD x = true) (hy : noD y = true) (hu : A.units + min x.depth y.depth < cLine) : RcAt A s a b (PyData.eqv x y) := by
  cases ra with
  | none =>
    cases rb with
    | none => exact RcAt.none_none
    | bool z => exact RcAt.none_bool z
    | int z u => exact RcAt.none_int z u
    | str z u => exact RcAt.none_str z u
    | list k1 k2 k3 k4 => exact RcAt.none_list ⟨_, k1, k2, _, k3⟩ (room_here hu)
    | tuple k1 k2 k3 k4 => exact RcAt.none_tuple ⟨_, k1, k2, _, k3⟩ (room_here hu)
    | dict => exact nomatch hy
  | bool x =>
    cases rb with
    | none => exact RcAt.bool_none x
    | bool z => exact RcAt.bool_bool x z
    | int z u => exact RcAt.bool_int x z u
    | str z u => exact RcAt.bool_str x z u
    | list k1 k2 k3 k4 => exact RcAt.bool_list x ⟨_, k1, k2, _, k3⟩ (room_here hu)
    | tuple k1 k2 k3 k4 => exact RcAt.bool_tuple x ⟨_, k1, k2, _, k3⟩ (room_here hu)
    | dict => exact nomatch hy
  | int x t =>
    cases rb with
    | none => exact RcAt.int_none x t
    | bool z => exact RcAt.int_bool x t z
    | int z u => exact RcAt.int_int x t z u
    | str z u => exact RcAt.int_str x t z u
    | list k1 k2 k3 k4 => exact RcAt.int_list x t ⟨_, k1, k2, _, k3⟩ (room_here hu)
    | tuple k1 k2 k3 k4 => exact RcAt.int_tuple x t ⟨_, k1, k2, _, k3⟩ (room_here hu)
    | dict => exact nomatch hy
  | str x t =>
    cases rb with
    | none => exact RcAt.str_none x t
    | bool z => exact RcAt.str_bool x t z
    | int z u => exact RcAt.str_int x t z u
    | str z u => exact RcAt.str_str x t z u
    | list k1 k2 k3 k4 => exact RcAt.str_list x t ⟨_, k1, k2, _, k3⟩ (room_here hu)
    | tuple k1 k2 k3 k4 => exact RcAt.str_tuple x t ⟨_, k1, k2, _, k3⟩ (room_here hu)
    | dict => exact nomatch hy
  | @list l o vs n xs as1 h1 h2 h3 h4 =>
    have hl : s.heap.IsList l vs := ⟨_, h1, h2, _, h3⟩
    cases rb with
    | none => exact RcAt.list_none hl (room_here hu)
    | bool z => exact RcAt.list_bool z hl (room_here hu)
    | int z u => exact RcAt.list_int z u hl (room_here hu)
    | str z u => exact RcAt.list_str z u hl (room_here hu)
    | tuple k1 k2 k3 k4 => exact RcAt.list_tuple hl ⟨_, k1, k2, _, k3⟩ (room_here hu)
    | dict => exact nomatch hy
    | @list l' o' vs' n' ys bs1 k1 k2 k3 k4 =>
      have hl' : s.heap.IsList l' vs' := ⟨_, k1, k2, _, k3⟩
      have n1 : vs.size = xs.length := by simpa using rdAll_len _ _ _ h4
      have n2 : vs'.size = ys.length := by simpa using rdAll_len _ _ _ k4
      show RcAt A s (.ref l) (.ref l') (PyData.eqvAll xs ys)
      by_cases hsz : vs.size = vs'.size
      · rw [← eqvs_same (by omega : xs.length = ys.length), ← n1]
        refine RcAt.lists hl hl' hsz (room_here hu) fun j j1 j2 => ?_
        have := eq_rds xs ys A.in1 s vs.toList vs'.toList _ _ h4 k4 (by simpa [noD] using hx) (by simpa [noD] using hy) (room_in hu) j (by simpa using j1) (by simpa using j2)
        simpa using this
      · rw [eqvs_len (by omega : xs.length ≠ ys.length)]
        exact RcAt.lists_lengths hl hl' (by simpa using hsz) (room_here hu)
  | @tuple l o vs n xs as1 h1 h2 h3 h4 =>
    have hl : s.heap.IsTuple l vs := ⟨_, h1, h2, _, h3⟩
    cases rb with
    | none => exact RcAt.tuple_none hl (room_here hu)
    | bool z => exact RcAt.tuple_bool z hl (room_here hu)
    | int z u => exact RcAt.tuple_int z u hl (room_here hu)
    | str z u => exact RcAt.tuple_str z u hl (room_here hu)
    | list k1 k2 k3 k4 => exact RcAt.tuple_list hl ⟨_, k1, k2, _, k3⟩ (room_here hu)
    | dict => exact nomatch hy
    | @tuple l' o' vs' n' ys bs1 k1 k2 k3 k4 =>
      have hl' : s.heap.IsTuple l' vs' := ⟨_, k1, k2, _, k3⟩
      have n1 : vs.size = xs.length := by simpa using rdAll_len _ _ _ h4
      have n2 : vs'.size = ys.length := by simpa using rdAll_len _ _ _ k4
      show RcAt A s (.ref l) (.ref l') (PyData.eqvAll xs ys)
      rw [← eqvs_range xs ys, ← n1, ← n2]
      refine RcAt.tuples hl hl' (room_here hu) fun j j1 j2 => ?_
      have := eq_rds xs ys A.in1 s vs.toList vs'.toList _ _ h4 k4 (by simpa [noD] using hx) (by simpa [noD] using hy) (room_in hu) j (by simpa using j1) (by simpa using j2)
      simpa using this
  | dict => exact nomatch hx
theorem rn_rd {x y : D} {A : Around} {s : Shared} {a b : Value} {as bs : List Addr} (ra : Reads s.heap a x as) (rb : Reads s.heap b y bs) (hx : noD x = true) (hy : noD y = true) (hu : A.units + min x.depth y.depth < cLine) : RcNeAt A s a b (!PyData.eqv x y) := by
  cases ra with
  | none =>
    cases rb with
    | none => exact RcNeAt.none_none
    | bool z => exact RcNeAt.none_bool z
    | int z u => exact RcNeAt.none_int z u
    | str z u => exact RcNeAt.none_str z u
    | list k1 k2 k3 k4 => exact RcNeAt.none_list ⟨_, k1, k2, _, k3⟩ (room_here hu)
    | tuple k1 k2 k3 k4 => exact RcNeAt.none_tuple ⟨_, k1, k2, _, k3⟩ (room_here hu)
    | dict => exact nomatch hy
  | bool x =>
    cases rb with
    | none => exact RcNeAt.bool_none x
    | bool z => exact RcNeAt.bool_bool x z
    | int z u => exact RcNeAt.bool_int x z u
    | str z u => exact RcNeAt.bool_str x z u
    | list k1 k2 k3 k4 => exact RcNeAt.bool_list x ⟨_, k1, k2, _, k3⟩ (room_here hu)
    | tuple k1 k2 k3 k4 => exact RcNeAt.bool_tuple x ⟨_, k1, k2, _, k3⟩ (room_here hu)
    | dict => exact nomatch hy
  | int x t =>
    cases rb with
    | none => exact RcNeAt.int_none x t
    | bool z => exact RcNeAt.int_bool x t z
    | int z u => exact RcNeAt.int_int x t z u
    | str z u => exact RcNeAt.int_str x t z u
    | list k1 k2 k3 k4 => exact RcNeAt.int_list x t ⟨_, k1, k2, _, k3⟩ (room_here hu)
    | tuple k1 k2 k3 k4 => exact RcNeAt.int_tuple x t ⟨_, k1, k2, _, k3⟩ (room_here hu)
    | dict => exact nomatch hy
  | str x t =>
    cases rb with
    | none => exact RcNeAt.str_none x t
    | bool z => exact RcNeAt.str_bool x t z
    | int z u => exact RcNeAt.str_int x t z u
    | str z u => exact RcNeAt.str_str x t z u
    | list k1 k2 k3 k4 => exact RcNeAt.str_list x t ⟨_, k1, k2, _, k3⟩ (room_here hu)
    | tuple k1 k2 k3 k4 => exact RcNeAt.str_tuple x t ⟨_, k1, k2, _, k3⟩ (room_here hu)
    | dict => exact nomatch hy
  | @list l o vs n xs as1 h1 h2 h3 h4 =>
    have hl : s.heap.IsList l vs := ⟨_, h1, h2, _, h3⟩
    cases rb with
    | none => exact RcNeAt.list_none hl (room_here hu)
    | bool z => exact RcNeAt.list_bool z hl (room_here hu)
    | int z u => exact RcNeAt.list_int z u hl (room_here hu)
    | str z u => exact RcNeAt.list_str z u hl (room_here hu)
    | tuple k1 k2 k3 k4 => exact RcNeAt.list_tuple hl ⟨_, k1, k2, _, k3⟩ (room_here hu)
    | dict => exact nomatch hy
    | @list l' o' vs' n' ys bs1 k1 k2 k3 k4 =>
      have hl' : s.heap.IsList l' vs' := ⟨_, k1, k2, _, k3⟩
      have n1 : vs.size = xs.length := by simpa using rdAll_len _ _ _ h4
      have n2 : vs'.size = ys.length := by simpa using rdAll_len _ _ _ k4
      show RcNeAt A s (.ref l) (.ref l') (!PyData.eqvAll xs ys)
      by_cases hsz : vs.size = vs'.size
      · rw [← eqvs_same (by omega : xs.length = ys.length), ← n1]
        refine RcNeAt.lists hl hl' hsz (room_here hu) fun j j1 j2 => ?_
        have := eq_rds xs ys A.in1 s vs.toList vs'.toList _ _ h4 k4 (by simpa [noD] using hx) (by simpa [noD] using hy) (room_in hu) j (by simpa using j1) (by simpa using j2)
        simpa using this
      · rw [eqvs_len (by omega : xs.length ≠ ys.length)]
        exact RcNeAt.lists_lengths hl hl' (by simpa using hsz) (room_here hu)
  | @tuple l o vs n xs as1 h1 h2 h3 h4 =>
    have hl : s.heap.IsTuple l vs := ⟨_, h1, h2, _, h3⟩
    cases rb with
    | none => exact RcNeAt.tuple_none hl (room_here hu)
    | bool z => exact RcNeAt.tuple_bool z hl (room_here hu)
    | int z u => exact RcNeAt.tuple_int z u hl (room_here hu)
    | str z u => exact RcNeAt.tuple_str z u hl (room_here hu)
    | list k1 k2 k3 k4 => exact RcNeAt.tuple_list hl ⟨_, k1, k2, _, k3⟩ (room_here hu)
    | dict => exact nomatch hy
    | @tuple l' o' vs' n' ys bs1 k1 k2 k3 k4 =>
      have hl' : s.heap.IsTuple l' vs' := ⟨_, k1, k2, _, k3⟩
      have n1 : vs.size = xs.length := by simpa using rdAll_len _ _ _ h4
      have n2 : vs'.size = ys.length := by simpa using rdAll_len _ _ _ k4
      show RcNeAt A s (.ref l) (.ref l') (!PyData.eqvAll xs ys)
      rw [← eqvs_range xs ys, ← n1, ← n2]
      refine RcNeAt.tuples hl hl' (room_here hu) fun j j1 j2 => ?_
      have := eq_rds xs ys A.in1 s vs.toList vs'.toList _ _ h4 k4 (by simpa [noD] using hx) (by simpa [noD] using hy) (room_in hu) j (by simpa using j1) (by simpa using j2)
      simpa using this
  | dict => exact nomatch hx
end

/-! ### what a value stands for, read off the heap -/
section
variable {X : Cx} {pins : List (Addr × Obj)} {σ : L2.St} {H : Hp} {s : Shared}
mutual
theorem Rp.reads (I : Inv X pins σ H s) : ∀ (d : D) (v : V) (u : Value), noD d = true → Rp X.K X.w H v d → RelV v u → ∃ as, Reads s.heap u d as
  | .none, _, _, _, h, r => by
    cases h; cases r
    exact ⟨_, Reads.none⟩
  | .bool b, _, _, _, h, r => by
    cases h; cases r
    exact ⟨_, Reads.bool b⟩
  | .int i, _, _, _, h, r => by
    cases h
    obtain ⟨t, rfl⟩ := r
    exact ⟨_, Reads.int i t⟩
  | .str x, _, _, _, h, r => by
    cases h
    obtain ⟨t, rfl⟩ := r
    exact ⟨_, Reads.str x t⟩
  | .list ds, _, _, hn, h, r => by
    cases h with
    | lst hs ha =>
      cases r
      obtain ⟨its, rv, ⟨o, n, ho, hc, _, hd⟩, _⟩ := I.list hs
      obtain ⟨as, hr⟩ := RpA.reads I ds _ its (by simpa [noD] using hn) ha rv
      exact ⟨_, Reads.list ho hc hd hr⟩
  | .tuple ds, _, _, hn, h, r => by
    cases h with
    | tup hs ha _ =>
      cases r
      obtain ⟨its, rv, ⟨o, ho, hc, n, hd⟩, _⟩ := I.tuple hs
      obtain ⟨as, hr⟩ := RpA.reads I ds _ its (by simpa [noD] using hn) ha rv
      exact ⟨_, Reads.tuple ho hc hd hr⟩
  | .dict _, _, _, hn, _, _ => nomatch hn
theorem RpA.reads (I : Inv X pins σ H s) : ∀ (ds : List D) (vs : List V) (us : List Value), noDs ds = true → RpA X.K X.w H vs ds → Vals vs us → ∃ as, ReadsAll s.heap us ds as
  | [], _, _, _, h, r => by
    cases h; cases r
    exact ⟨_, ReadsAll.nil⟩
  | d :: ds, _, _, hn, h, r => by
    have hn' : noD d = true ∧ noDs ds = true := by simpa [noDs] using hn
    cases h with
    | cons h1 h2 =>
      cases r with
      | cons r1 r2 =>
        obtain ⟨as, q1⟩ := Rp.reads I d _ _ hn'.1 h1 r1
        obtain ⟨bs, q2⟩ := RpA.reads I ds _ _ hn'.2 h2 r2
        exact ⟨_, ReadsAll.cons q1 q2⟩
end
end
end DL

/-! The data layer, part 3: the judgements, and expressions. -/
namespace DL
open PySem PySem.Spec PyProof.Rows L2

/-- the expression e, asked at slots env, is f env -/
structure DE (X : Cx) (W : WX) (md : Md) (e : Expr) (f : DEnv → M D) : Prop where
  run : ∃ t : TE, PE X e t ∧ ∀ (B : Bs X.A.handled) (F H : Hp) (σ : L2.St) (env : DEnv) (Q : VK), EnvOk X.K X.w B F H σ env →
    Ans (f env) (fun d => ∀ v F' H', Ext F H F' H' → RM X.K X.w H F' H' md v d → Q v H') (fun c => ∀ F' H', Ext F H F' H' → W c none σ H') → t σ H Q
structure DT (X : Cx) (W : WX) (e : Expr) (f : DEnv → M Bool) : Prop where
  run : ∃ t : TT, PT X e t ∧ ∀ (B : Bs X.A.handled) (F H : Hp) (σ : L2.St) (env : DEnv) (Q : Bool → Hp → Prop), EnvOk X.K X.w B F H σ env →
    Ans (f env) (fun b => ∀ F' H', Ext F H F' H' → Q b H') (fun c => ∀ F' H', Ext F H F' H' → W c none σ H') → t σ H Q
structure DW (X : Cx) (W : WX) (e : Expr) (f : DEnv → M Bool) : Prop where
  run : ∃ t : TT, PW X e t ∧ ∀ (B : Bs X.A.handled) (F H : Hp) (σ : L2.St) (env : DEnv) (Q : Bool → Hp → Prop), EnvOk X.K X.w B F H σ env →
    Ans (f env) (fun b => ∀ F' H', Ext F H F' H' → Q b H') (fun c => ∀ F' H', Ext F H F' H' → W c none σ H') → t σ H Q
/-- arguments: frozen (v), or as they stand (s) -/
def RMA (K : PySem.W.Frag) (w : World) (F' H' : Hp) : Md → List V → List D → Prop
  | .v, vs, ds => RpA K w F' vs ds
  | .s, vs, ds => Paired (Sh K w F' H') vs ds
  | .o, _, _ => False
structure DA (X : Cx) (W : WX) (md : Md) (es : List Expr) (f : DEnv → M (List D)) : Prop where
  len : ∀ env ds, f env = some (.ok ds) → ds.length = es.length
  run : ∃ t : TA, PA X es t ∧ ∀ (B : Bs X.A.handled) (F H : Hp) (σ : L2.St) (env : DEnv) (Q : List V → Hp → Prop), EnvOk X.K X.w B F H σ env →
    Ans (f env) (fun ds => ∀ vs F' H', Ext F H F' H' → RMA X.K X.w F' H' md vs ds → Q vs H') (fun c => ∀ F' H', Ext F H F' H' → W c none σ H') → t σ H Q

theorem RMA.length {K : PySem.W.Frag} {w : World} {F H : Hp} {md : Md} {vs : List V} {ds : List D} (h : RMA K w F H md vs ds) : vs.length = ds.length := by
  cases md with
  | v => exact RpA.length h
  | s => exact Paired.length h
  | o => exact h.elim

section
variable {X : Cx} {W : WX} {e a b : Expr} {f fa fb : DEnv → M D} {pos : Pos}

theorem DE.toV (h : DE X W .o e f) : DE X W .v e f := by
  obtain ⟨t, h, q⟩ := h
  refine ⟨t, h, fun B F H σ env Q ok a => q B F H σ env Q ok (a.mono (fun d k v F' H' x r => ?_) fun c k => k)⟩
  obtain ⟨ow, p, rfl, hp, hf⟩ := r
  obtain ⟨p', o, e, ho⟩ := ow.obj
  cases e
  exact k _ _ H' (x.freeze hp ho hf) (ow.rp ho hf)
theorem DE.toS (h : DE X W .v e f) : DE X W .s e f := by
  obtain ⟨t, h, q⟩ := h
  exact ⟨t, h, fun B F H σ env Q ok a => q B F H σ env Q ok (a.mono (fun d k v F' H' x r => k v F' H' x (.inl r)) fun c k => k)⟩
theorem DE.oS (h : DE X W .o e f) : DE X W .s e f := by
  obtain ⟨t, h, q⟩ := h
  exact ⟨t, h, fun B F H σ env Q ok a => q B F H σ env Q ok (a.mono (fun d k v F' H' x r => k v F' H' x (.inr r.1)) fun c k => k)⟩

/-! ### names, constants -/
def dVar (i : Nat) (env : DEnv) : M D := match env[i]? with
  | some (some (.fz d)) => mok d
  | _ => none
def dVarS (i : Nat) (env : DEnv) : M D := match env[i]? with
  | some (some (.fz d)) => mok d
  | some (some (.ow d)) => mok d
  | some (some (.pn d)) => mok d
  | _ => none
theorem de_var (i : Nat) {x : Str} (hN : X.N[i]? = some x := by rfl) (hv : Vis X.env.scope x := by first | exact Or.inl rfl | exact Or.inr (Or.inl rfl) | exact Or.inr (Or.inr rfl)) (hd : (x == ("__debug__" : Str)) = false := by decide)
    (hcd : (x == ("__classdict__" : Str)) = false := by decide) : DE X W .v (.Name x pos) (dVar i) := by
  refine ⟨_, pe_var hN hv hd hcd, fun B F H σ env Q ok h => ?_⟩
  unfold dVar at h
  split at h
  · rename_i d q
    obtain ⟨v, h1, h2⟩ := ok.sl i _ q
    exact ⟨v, h1, h v F H (.refl ok.fh) h2⟩
  · exact h.elim
theorem de_varS (i : Nat) {x : Str} (hN : X.N[i]? = some x := by rfl) (hv : Vis X.env.scope x := by first | exact Or.inl rfl | exact Or.inr (Or.inl rfl) | exact Or.inr (Or.inr rfl)) (hd : (x == ("__debug__" : Str)) = false := by decide)
    (hcd : (x == ("__classdict__" : Str)) = false := by decide) : DE X W .s (.Name x pos) (dVarS i) := by
  refine ⟨_, pe_var hN hv hd hcd, fun B F H σ env Q ok h => ?_⟩
  unfold dVarS at h
  split at h
  · rename_i d q
    obtain ⟨v, h1, h2⟩ := ok.sl i _ q
    exact ⟨v, h1, h v F H (.refl ok.fh) (.inl h2)⟩
  · rename_i d q
    obtain ⟨v, h1, h2⟩ := ok.sl i _ q
    exact ⟨v, h1, h v F H (.refl ok.fh) (.inr h2.1)⟩
  · rename_i d q
    obtain ⟨v, h1, h2⟩ := ok.sl i _ q
    exact ⟨v, h1, h v F H (.refl ok.fh) (.inr h2.1)⟩
  · exact h.elim
def dC (d : D) (_ : DEnv) : M D := mok d
theorem de_int {i j} : DE X W .v (.Constant (.int i) j pos) (dC (.int i)) := ⟨_, pe_int, fun B F H σ env Q ok h => h _ F H (.refl ok.fh) (.int i)⟩
theorem de_str {i j} : DE X W .v (.Constant (.str i) j pos) (dC (.str i)) := ⟨_, pe_str, fun B F H σ env Q ok h => h _ F H (.refl ok.fh) (.str i)⟩
theorem de_bl {i j} : DE X W .v (.Constant (.bool i) j pos) (dC (.bool i)) := ⟨_, pe_bl, fun B F H σ env Q ok h => h _ F H (.refl ok.fh) (.bl i)⟩
theorem de_non {j} : DE X W .v (.Constant .none j pos) (dC .none) := ⟨_, pe_non, fun B F H σ env Q ok h => h _ F H (.refl ok.fh) .non⟩
/-- a number, a text of the module -/
theorem de_globI {x : Str} {i : Int} {t : Tok} (hg : Gl X x) (hm : X.mg x = some (.int i t)) (hd : (x == ("__debug__" : Str)) = false := by decide) : DE X W .v (.Name x pos) (dC (.int i)) :=
  ⟨_, pe_glob (v := .int i) hg hm ⟨t, rfl⟩ hd, fun B F H σ env Q ok h => h _ F H (.refl ok.fh) (.int i)⟩
theorem de_globS {x : Str} {i : Str} {t : Tok} (hg : Gl X x) (hm : X.mg x = some (.str i t)) (hd : (x == ("__debug__" : Str)) = false := by decide) : DE X W .v (.Name x pos) (dC (.str i)) :=
  ⟨_, pe_glob (v := .str i) hg hm ⟨t, rfl⟩ hd, fun B F H σ env Q ok h => h _ F H (.refl ok.fh) (.str i)⟩

/-! ### two in a row -/
def d2 (g : D → D → M D) (fa fb : DEnv → M D) (env : DEnv) : M D := mbind (fa env) fun x => mbind (fb env) fun y => g x y
def d1 (g : D → M D) (fa : DEnv → M D) (env : DEnv) : M D := mbind (fa env) g
/-- by values: g, of two data -/
def rD (X : Cx) (md : Md) (g : D → D → M D) : R2 := fun x y H Q => ∃ F d e, Same F H ∧ Sh X.K X.w F H x d ∧ Sh X.K X.w F H y e ∧
  Ans (g d e) (fun z => ∀ v F' H', Ext F H F' H' → RM X.K X.w H F' H' md v z → Q v H') (fun _ => False)
theorem OpR.imp {h : Value → Value → Sem Value} {r r' : R2} (k : OpR X h r) (i : ∀ x y H Q, r' x y H Q → r x y H Q) : OpR X h r' :=
  fun pins s σ H x y v u Q I rx ry q => k pins s σ H x y v u Q I rx ry (i x y H Q q)
theorem RM.back {K : PySem.W.Frag} {w : World} {H H1 F' H' : Hp} {md : Md} {v : V} {d : D} (s : Same H H1) (r : RM K w H1 F' H' md v d) : RM K w H F' H' md v d := by
  cases md with
  | v => exact r
  | s => exact r
  | o =>
    obtain ⟨r, a, e, h1, h2⟩ := r
    exact ⟨r, a, e, s.free h1, h2⟩
theorem two {g : D → D → M D} {md : Md} {ta tb : TE} {B : Bs X.A.handled} {F H : Hp} {σ : L2.St} {env : DEnv} {Q : VK} {R : V → V → Hp → VK → Prop}
    (qa : ∀ (B : Bs X.A.handled) (F H : Hp) (σ : L2.St) (env : DEnv) (Q : VK), EnvOk X.K X.w B F H σ env → Ans (fa env) (fun d => ∀ v F' H', Ext F H F' H' → RM X.K X.w H F' H' .s v d → Q v H') (fun c => ∀ F' H', Ext F H F' H' → W c none σ H') → ta σ H Q)
    (qb : ∀ (B : Bs X.A.handled) (F H : Hp) (σ : L2.St) (env : DEnv) (Q : VK), EnvOk X.K X.w B F H σ env → Ans (fb env) (fun d => ∀ v F' H', Ext F H F' H' → RM X.K X.w H F' H' .s v d → Q v H') (fun c => ∀ F' H', Ext F H F' H' → W c none σ H') → tb σ H Q)
    (hr : ∀ x y H Q, rD X md g x y H Q → R x y H Q) (hg : ∀ x y c, g x y ≠ some (.error c))
    (ok : EnvOk X.K X.w B F H σ env) (h : Ans (d2 g fa fb env) (fun d => ∀ v F' H', Ext F H F' H' → RM X.K X.w H F' H' md v d → Q v H') (fun c => ∀ F' H', Ext F H F' H' → W c none σ H')) :
    ta σ H fun x H1 => tb σ H1 fun y H2 => R x y H2 Q := by
  refine qa B F H σ env _ ok (h.bind.mono (fun d1 h1 x F1 H1 e1 r1 => ?_) fun c k => k)
  refine qb B F1 H1 σ env _ (ok.mono e1) (h1.bind.mono (fun d2 h2 y F2 H2 e2 r2 => ?_) fun c k F' H' e => k F' H' (e1.trans e))
  refine hr x y H2 Q ⟨F2, d1, d2, e2.fh, Sh.mono r1 e2.ff e2.hh, r2, h2.monoE (fun z _ k v F' H' e r => ?_) fun c z _ => hg _ _ _ z⟩
  exact k v F' H' ((e1.trans e2).trans e) (RM.back (e1.hh.trans e2.hh) r)
theorem de_op {op : Operator} {md : Md} {g : D → D → M D} (ho : OpR X (binaryOp op) (rD X md g)) (hg : ∀ x y c, g x y ≠ some (.error c)) (ha : DE X W .s a fa) (hb : DE X W .s b fb) : DE X W md (.BinOp a op b pos) (d2 g fa fb) := by
  obtain ⟨ta, ha, qa⟩ := ha
  obtain ⟨tb, hb, qb⟩ := hb
  exact ⟨_, pe_op ho ha hb, fun B F H σ env Q ok h => two (R := rD X md g) qa qb (fun _ _ _ _ h => h) hg ok h⟩
theorem de_cmp {op : CmpOp} {g : D → D → M D} (ho : OpR X (compareOp op) (rD X .v g)) (hg : ∀ x y c, g x y ≠ some (.error c)) (ha : DE X W .s a fa) (hb : DE X W .s b fb) (hm : behindInMarks op b = false) : DE X W .v (.Compare a [op] [b] pos) (d2 g fa fb) := by
  obtain ⟨ta, ha, qa⟩ := ha
  obtain ⟨tb, hb, qb⟩ := hb
  exact ⟨_, pe_cmpR ho ha hb hm, fun B F H σ env Q ok h => two (R := rD X .v g) qa qb (fun _ _ _ _ h => h) hg ok h⟩

/-! ### tests -/
def asB : D → M Bool
  | .bool b => mok b
  | _ => none
def dTst (f : DEnv → M D) (env : DEnv) : M Bool := mbind (f env) asB
theorem tst_of {f : DEnv → M D} {F H : Hp} {σ : L2.St} {env : DEnv} {Q : Bool → Hp → Prop} (h : Ans (dTst f env) (fun b => ∀ F' H', Ext F H F' H' → Q b H') (fun c => ∀ F' H', Ext F H F' H' → W c none σ H')) :
    Ans (f env) (fun d => ∀ v F' H', Ext F H F' H' → RM X.K X.w H F' H' .v v d → ∃ k, v = .bl k ∧ Q k H') (fun c => ∀ F' H', Ext F H F' H' → W c none σ H') := by
  refine h.bind.mono (fun d k v F' H' x r => ?_) fun c k => k
  cases d with
  | bool b =>
    have r : Rp X.K X.w F' v (.bool b) := r
    cases r
    exact ⟨b, rfl, k F' H' x⟩
  | none => exact k.elim
  | int _ => exact k.elim
  | str _ => exact k.elim
  | list _ => exact k.elim
  | tuple _ => exact k.elim
  | dict _ => exact k.elim
theorem dt_cmp {op : CmpOp} {g : D → D → M D} (ho : OpR X (compareOp op) (rD X .v g)) (hg : ∀ x y c, g x y ≠ some (.error c)) (ha : DE X W .s a fa) (hb : DE X W .s b fb) (hm : behindInMarks op b = false) : DT X W (.Compare a [op] [b] pos) (dTst (d2 g fa fb)) := by
  obtain ⟨ta, ha, qa⟩ := ha
  obtain ⟨tb, hb, qb⟩ := hb
  exact ⟨_, pt_cmpR ho ha hb hm, fun B F H σ env Q ok h => two (R := rD X .v g) qa qb (fun _ _ _ _ h => h) hg ok (tst_of h)⟩
/-- an expression that is True or False -/
theorem dt_val (h : DE X W .v e f) (he : ∀ whole, isTrue e X.env whole = (do let v ← whole; standAt e.pos; holding [v] (truthy v)) := by intro _; rfl) : DT X W e (dTst f) := by
  obtain ⟨t, h, q⟩ := h
  exact ⟨_, pt_val h he, fun B F H σ env Q ok h => q B F H σ env _ ok (tst_of h)⟩
theorem DW.dt {f : DEnv → M Bool} (h : DW X W e f) : DT X W e f := by
  obtain ⟨t, h, q⟩ := h
  exact ⟨t, h.pt, q⟩
def dAnd (f g : DEnv → M Bool) (env : DEnv) : M Bool := mbind (f env) fun x => if x then g env else mok false
def dOr (f g : DEnv → M Bool) (env : DEnv) : M Bool := mbind (f env) fun x => if x then mok true else g env
def dNot (f : DEnv → M Bool) (env : DEnv) : M Bool := mbind (f env) fun x => mok (!x)
variable {p q : DEnv → M Bool} {rest : List Expr}
theorem dw_and1 (ha : DT X W a p) : DW X W (.BoolOp .And [a] pos) p := by
  obtain ⟨t, h, q⟩ := ha
  exact ⟨t, pw_and1 h, q⟩
theorem dw_or1 (ha : DT X W a p) : DW X W (.BoolOp .Or [a] pos) p := by
  obtain ⟨t, h, q⟩ := ha
  exact ⟨t, pw_or1 h, q⟩
theorem dw_and (ha : DT X W a p) (hb : DW X W (.BoolOp .And (b :: rest) pos) q) : DW X W (.BoolOp .And (a :: b :: rest) pos) (dAnd p q) := by
  obtain ⟨ta, ha, qa⟩ := ha
  obtain ⟨tb, hb, qb⟩ := hb
  refine ⟨_, pw_and ha hb, fun B F H σ env Q ok h => qa B F H σ env _ ok (h.bind.mono (fun c k F1 H1 e1 => ?_) fun c k => k)⟩
  cases c with
  | true => exact qb B F1 H1 σ env Q (ok.mono e1) (Ans.mono (show Ans (q env) _ _ from k) (fun b k F' H' e => k F' H' (e1.trans e)) fun c k F' H' e => k F' H' (e1.trans e))
  | false => exact k F1 H1 e1
theorem dw_or (ha : DT X W a p) (hb : DW X W (.BoolOp .Or (b :: rest) pos) q) : DW X W (.BoolOp .Or (a :: b :: rest) pos) (dOr p q) := by
  obtain ⟨ta, ha, qa⟩ := ha
  obtain ⟨tb, hb, qb⟩ := hb
  refine ⟨_, pw_or ha hb, fun B F H σ env Q ok h => qa B F H σ env _ ok (h.bind.mono (fun c k F1 H1 e1 => ?_) fun c k => k)⟩
  cases c with
  | false => exact qb B F1 H1 σ env Q (ok.mono e1) (Ans.mono (show Ans (q env) _ _ from k) (fun b k F' H' e => k F' H' (e1.trans e)) fun c k F' H' e => k F' H' (e1.trans e))
  | true => exact k F1 H1 e1
theorem dt_not (ha : DT X W a p) : DT X W (.UnaryOp .Not a pos) (dNot p) := by
  obtain ⟨ta, ha, qa⟩ := ha
  exact ⟨_, pt_not ha, fun B F H σ env Q ok h => qa B F H σ env _ ok (h.bind.mono (fun c k F1 H1 e1 => k F1 H1 e1) fun c k => k)⟩
/-! .. as values, True and False alone -/
def dAndV (f g : DEnv → M D) (env : DEnv) : M D := mbind (f env) fun x => match x with
  | .bool true => g env
  | .bool false => mok (.bool false)
  | _ => none
def dOrV (f g : DEnv → M D) (env : DEnv) : M D := mbind (f env) fun x => match x with
  | .bool true => mok (.bool true)
  | .bool false => g env
  | _ => none
def dNotV (f : DEnv → M D) (env : DEnv) : M D := mbind (f env) fun x => match x with
  | .bool b => mok (.bool (!b))
  | _ => none
theorem de_one {op} (h : DE X W .v a fa) : DE X W .v (.BoolOp op [a] pos) fa := by
  obtain ⟨t, h, q⟩ := h
  exact ⟨t, pe_one h, q⟩
theorem de_and (ha : DE X W .v a fa) (hb : DE X W .v (.BoolOp .And (b :: rest) pos) fb) : DE X W .v (.BoolOp .And (a :: b :: rest) pos) (dAndV fa fb) := by
  obtain ⟨ta, ha, qa⟩ := ha
  obtain ⟨tb, hb, qb⟩ := hb
  refine ⟨_, pe_and ha hb, fun B F H σ env Q ok h => qa B F H σ env _ ok (h.bind.mono (fun d k v F1 H1 e1 r => ?_) fun c k => k)⟩
  have r : Rp X.K X.w F1 v d := r
  cases r with
  | bl c =>
    cases c with
    | true => exact ⟨true, rfl, qb B F1 H1 σ env Q (ok.mono e1) (Ans.mono (show Ans (fb env) _ _ from k) (fun b k v F' H' e r => k v F' H' (e1.trans e) r) fun c k F' H' e => k F' H' (e1.trans e))⟩
    | false => exact ⟨false, rfl, k _ F1 H1 e1 (.bl false)⟩
  | _ => exact k.elim
theorem de_or (ha : DE X W .v a fa) (hb : DE X W .v (.BoolOp .Or (b :: rest) pos) fb) : DE X W .v (.BoolOp .Or (a :: b :: rest) pos) (dOrV fa fb) := by
  obtain ⟨ta, ha, qa⟩ := ha
  obtain ⟨tb, hb, qb⟩ := hb
  refine ⟨_, pe_or ha hb, fun B F H σ env Q ok h => qa B F H σ env _ ok (h.bind.mono (fun d k v F1 H1 e1 r => ?_) fun c k => k)⟩
  have r : Rp X.K X.w F1 v d := r
  cases r with
  | bl c =>
    cases c with
    | false => exact ⟨false, rfl, qb B F1 H1 σ env Q (ok.mono e1) (Ans.mono (show Ans (fb env) _ _ from k) (fun b k v F' H' e r => k v F' H' (e1.trans e) r) fun c k F' H' e => k F' H' (e1.trans e))⟩
    | true => exact ⟨true, rfl, k _ F1 H1 e1 (.bl true)⟩
  | _ => exact k.elim
theorem de_not (ha : DE X W .v a fa) : DE X W .v (.UnaryOp .Not a pos) (dNotV fa) := by
  obtain ⟨ta, ha, qa⟩ := ha
  refine ⟨_, pe_not ha, fun B F H σ env Q ok h => qa B F H σ env _ ok (h.bind.mono (fun d k v F1 H1 e1 r => ?_) fun c k => k)⟩
  have r : Rp X.K X.w F1 v d := r
  cases r with
  | bl c => exact ⟨c, rfl, k _ F1 H1 e1 (.bl _)⟩
  | _ => exact k.elim
def dIf (p : DEnv → M Bool) (f g : DEnv → M D) (env : DEnv) : M D := mbind (p env) fun x => if x then f env else g env
theorem de_ifExp {c : Expr} {md : Md} (hc : DT X W c p) (ha : DE X W md a fa) (hb : DE X W md b fb) : DE X W md (.IfExp c a b pos) (dIf p fa fb) := by
  obtain ⟨tc, hc, qc⟩ := hc
  obtain ⟨ta, ha, qa⟩ := ha
  obtain ⟨tb, hb, qb⟩ := hb
  refine ⟨_, pe_ifExp hc ha hb, fun B F H σ env Q ok h => qc B F H σ env _ ok (h.bind.mono (fun c k F1 H1 e1 => ?_) fun c k => k)⟩
  cases c with
  | true => exact qa B F1 H1 σ env Q (ok.mono e1) (Ans.mono (show Ans (fa env) _ _ from k) (fun b k v F' H' e r => k v F' H' (e1.trans e) (RM.back e1.hh r)) fun c k F' H' e => k F' H' (e1.trans e))
  | false => exact qb B F1 H1 σ env Q (ok.mono e1) (Ans.mono (show Ans (fb env) _ _ from k) (fun b k v F' H' e r => k v F' H' (e1.trans e) (RM.back e1.hh r)) fun c k F' H' e => k F' H' (e1.trans e))

/-! ### arguments, displays -/
def dNil (_ : DEnv) : M (List D) := mok []
def dCons (f : DEnv → M D) (g : DEnv → M (List D)) (env : DEnv) : M (List D) := mbind (f env) fun x => mbind (g env) fun xs => mok (x :: xs)
variable {es : List Expr} {g : DEnv → M (List D)}
theorem da_nil {md : Md} (hm : md ≠ .o := by decide) : DA X W md [] dNil := by
  refine ⟨fun env ds h => ?_, _, pa_nil, fun B F H σ env Q ok h => h [] F H (.refl ok.fh) ?_⟩
  · cases h; rfl
  · cases md with
    | v => exact .nil
    | s => exact .nil
    | o => exact absurd rfl hm
theorem da_consV (ha : DE X W .v a fa) (hr : DA X W .v es g) (hs : starEach (a :: es) X.env = (false, eval a X.env) :: starEach es X.env := by rfl) : DA X W .v (a :: es) (dCons fa g) := by
  obtain ⟨ta, ha, qa⟩ := ha
  obtain ⟨len, tb, hb, qb⟩ := hr
  refine ⟨fun env ds h => ?_, _, pa_cons ha hb hs, fun B F H σ env Q ok h => qa B F H σ env _ ok (h.bind.mono (fun d k v F1 H1 e1 r => ?_) fun c k => k)⟩
  · unfold dCons at h
    cases h1 : fa env with
    | none => rw [h1] at h; cases h
    | some r =>
      cases r with
      | error c => rw [h1] at h; cases h
      | ok x =>
        rw [h1] at h
        cases h2 : g env with
        | none => rw [mbind_ok, h2] at h; cases h
        | some r =>
          cases r with
          | error c => rw [mbind_ok, h2] at h; cases h
          | ok xs =>
            rw [mbind_ok, h2] at h
            cases h
            simp [len env xs h2]
  · refine qb B F1 H1 σ env _ (ok.mono e1) (k.bind.mono (fun ds k vs F2 H2 e2 rs => ?_) fun c k F' H' e => k F' H' (e1.trans e))
    exact k (v :: vs) F2 H2 (e1.trans e2) (RpA.cons (Rp.mono e2.ff r) rs)
theorem da_consS (ha : DE X W .s a fa) (hr : DA X W .s es g) (hs : starEach (a :: es) X.env = (false, eval a X.env) :: starEach es X.env := by rfl) : DA X W .s (a :: es) (dCons fa g) := by
  obtain ⟨ta, ha, qa⟩ := ha
  obtain ⟨len, tb, hb, qb⟩ := hr
  refine ⟨fun env ds h => ?_, _, pa_cons ha hb hs, fun B F H σ env Q ok h => qa B F H σ env _ ok (h.bind.mono (fun d k v F1 H1 e1 r => ?_) fun c k => k)⟩
  · unfold dCons at h
    cases h1 : fa env with
    | none => rw [h1] at h; cases h
    | some r =>
      cases r with
      | error c => rw [h1] at h; cases h
      | ok x =>
        rw [h1] at h
        cases h2 : g env with
        | none => rw [mbind_ok, h2] at h; cases h
        | some r =>
          cases r with
          | error c => rw [mbind_ok, h2] at h; cases h
          | ok xs =>
            rw [mbind_ok, h2] at h
            cases h
            simp [len env xs h2]
  · refine qb B F1 H1 σ env _ (ok.mono e1) (k.bind.mono (fun ds k vs F2 H2 e2 rs => ?_) fun c k F' H' e => k F' H' (e1.trans e))
    exact k (v :: vs) F2 H2 (e1.trans e2) (Paired.cons (Sh.mono r e2.ff e2.hh) rs)
def dTup (g : DEnv → M (List D)) (env : DEnv) : M D := mbind (g env) fun ds => mok (.tuple ds)
def dLst (g : DEnv → M (List D)) (env : DEnv) : M D := mbind (g env) fun ds => mok (.list ds)
theorem small_of {es : List Expr} (h : es.length ≤ 1000) {n : Nat} (e : n = es.length) : n ≤ sizeLine := by
  rw [e]
  exact Nat.le_of_lt (small1000 h)
/-- a tuple display: the object that is laid has no dict -/
theorem pe_tupN {es : List Expr} {t : TA} {pos : Pos} {x1} (h : PA X es t) : PE X (.Tuple es x1 pos) (fun σ H Q => t σ H fun xs H1 => xs.length ≤ sizeLine ∧ ∀ p, H1 p = none → ∀ o : Obj, o.dict = none → Q (.ref p) (upd H1 p (.frz o (.tup xs)))) := by
  refine ⟨fun pins s σ H Q I hq => ?_⟩
  refine wpAny_Tuple_spliced (thn (h.run pos pins s σ H _ I hq) fun us s1 ⟨xs, H1, I1, r, z, q⟩ => ⟨by rw [← r.length]; exact z, ?_⟩)
  have e := Heap.get?_push_size (o := { cls := .type "tuple", data := .seq us.toArray }) s1.heap rfl
  exact ⟨.ref s1.heap.objs.size, _, I1.laid (o := .frz { cls := .type "tuple", data := .seq us.toArray } (.tup xs)) (t' := s1.toks) (fun b u e => Heap.get?_push_of_some _ e) (Nat.le_refl _) ⟨e, z, us, r, ⟨_, e, rfl, _, rfl⟩⟩, rfl, q _ (I1.hok.fresh (Nat.le_refl _)) { cls := .type "tuple", data := .seq us.toArray } rfl⟩
theorem de_tup {x1} (h : DA X W .v es g) (hz : es.length ≤ 1000 := by decide) : DE X W .v (.Tuple es x1 pos) (dTup g) := by
  obtain ⟨len, t, h, q⟩ := h
  refine ⟨_, pe_tupN h, fun B F H σ env Q ok h => q B F H σ env _ ok (h.bind.monoE (fun ds e k vs F1 H1 e1 rs => ?_) fun c _ k => k)⟩
  refine ⟨small_of hz ((RMA.length rs).trans (len env ds e)), fun p hp o ho => ?_⟩
  have x := Ext.newF (o := .frz o (.tup vs)) e1.fh hp
  exact k _ _ _ (e1.trans x) (.tup (.inl (.inr ⟨o, upd_same⟩)) (RpA.mono x.ff rs) fun _ => .of ho)
theorem de_lst (h : DA X W .v es g) (hz : es.length ≤ 1000 := by decide) : DE X W .o (.List es pos) (dLst g) := by
  obtain ⟨len, t, h, q⟩ := h
  refine ⟨_, pe_lst h, fun B F H σ env Q ok h => q B F H σ env _ ok (h.bind.monoE (fun ds e k vs F1 H1 e1 rs => ?_) fun c _ k => k)⟩
  refine ⟨small_of hz ((RMA.length rs).trans (len env ds e)), fun p hp => ?_⟩
  have x := Ext.newO (o := .lst vs) e1.fh hp
  exact k _ _ _ (e1.trans x) ⟨⟨p, rfl, .inl ⟨vs, ds, rfl, upd_same, rs⟩⟩, p, rfl, e1.hh.free hp, e1.fh.free hp⟩

/-! ### calls of built-ins, by data -/
def rC (X : Cx) (md : Md) (g : List D → M D) : List V → Hp → VK → Prop := fun xs H Q => ∃ F ds, Same F H ∧ Paired (Sh X.K X.w F H) xs ds ∧
  Ans (g ds) (fun z => ∀ v F' H', Ext F H F' H' → RM X.K X.w H F' H' md v z → Q v H') (fun _ => False)
def dCall (g : List D → M D) (fs : DEnv → M (List D)) (env : DEnv) : M D := mbind (fs env) g
theorem CallR.imp {h : Value} {r r' : List V → Hp → VK → Prop} (k : CallR X h r) (i : ∀ xs H Q, r' xs H Q → r xs H Q) : CallR X h r' :=
  fun pins s σ H xs us Q I rx q => k pins s σ H xs us Q I rx (i xs H Q q)
theorem callAns {md : Md} {k : List D → M D} {t : TA} (qa : ∀ (B : Bs X.A.handled) (F H : Hp) (σ : L2.St) (env : DEnv) (Q : List V → Hp → Prop), EnvOk X.K X.w B F H σ env →
      Ans (g env) (fun ds => ∀ vs F' H', Ext F H F' H' → RMA X.K X.w F' H' .s vs ds → Q vs H') (fun c => ∀ F' H', Ext F H F' H' → W c none σ H') → t σ H Q) (hk : ∀ ds c, k ds ≠ some (.error c))
    {B : Bs X.A.handled} {F H : Hp} {σ : L2.St} {env : DEnv} {Q : VK} (ok : EnvOk X.K X.w B F H σ env)
    (h : Ans (dCall k g env) (fun d => ∀ v F' H', Ext F H F' H' → RM X.K X.w H F' H' md v d → Q v H') (fun c => ∀ F' H', Ext F H F' H' → W c none σ H')) : t σ H fun vs H1 => rC X md k vs H1 Q := by
  refine qa B F H σ env _ ok (h.bind.mono (fun ds k1 vs F1 H1 e1 rs => ?_) fun c k => k)
  exact ⟨F1, ds, e1.fh, rs, k1.monoE (fun z _ k v F' H' e r => k v F' H' (e1.trans e) (RM.back e1.hh r)) fun c z _ => hk _ _ z⟩
theorem de_callB {id : String} {x : Str} {md : Md} {k : List D → M D} {p : Pos} (hc : CallR X (.builtin id) (rC X md k)) (hk : ∀ ds c, k ds ≠ some (.error c)) (hg : Gl X x) (hm : X.mg x = none) (hv : bootBuiltins x = some (.builtin id)) (ha : DA X W .s (a :: es) g)
    (hn : x ≠ "__name__" := by decide) (hdb : (x == ("__debug__" : Str)) = false := by decide) (he : starEach (a :: es) X.env = (false, eval a X.env) :: starEach es X.env := by rfl) (hpl : (backTo pos (starEach es X.env)).any (·.1) = false := by rfl) :
    DE X W md (.Call (.Name x p) (a :: es) [] pos) (dCall k g) := by
  obtain ⟨len, t, ha, qa⟩ := ha
  exact ⟨_, pe_callB hc hg hm hv ha hn hdb he hpl, fun B F H σ env Q ok h => callAns qa hk ok h⟩
theorem de_callTy {T : String} {x : Str} {md : Md} {k : List D → M D} {p : Pos} (hc : CallR X (.type T) (rC X md k)) (hk : ∀ ds c, k ds ≠ some (.error c)) (hg : Gl X x) (hm : X.mg x = none) (hv : bootBuiltins x = some (.type T)) (ha : DA X W .s (a :: es) g)
    (hn : x ≠ "__name__" := by decide) (hdb : (x == ("__debug__" : Str)) = false := by decide) (he : starEach (a :: es) X.env = (false, eval a X.env) :: starEach es X.env := by rfl) (hpl : (backTo pos (starEach es X.env)).any (·.1) = false := by rfl) :
    DE X W md (.Call (.Name x p) (a :: es) [] pos) (dCall k g) := by
  obtain ⟨len, t, ha, qa⟩ := ha
  exact ⟨_, pe_callTy hc hg hm hv ha hn hdb he hpl, fun B F H σ env Q ok h => callAns qa hk ok h⟩
end
end DL

/-! The data layer, part 4: operators, items, slices, built-ins of numbers, lists, tuples, texts. -/
namespace DL
open PySem PySem.Spec PyProof.Rows L2

section
variable {X : Cx}

/-! ### arithmetic -/
def addD : D → D → M D
  | .int i, .int j => mok (.int (i + j))
  | .str x, .str y => if x.length + y.length ≤ sizeLine then mok (.str (x ++ y)) else none
  | .tuple xs, .tuple ys => if xs.length + ys.length ≤ sizeLine then mok (.tuple (xs ++ ys)) else none
  | .list xs, .list ys => if xs.length + ys.length ≤ sizeLine then mok (.list (xs ++ ys)) else none
  | _, _ => none
theorem addD_ne (x y : D) (c : Value) : addD x y ≠ some (.error c) := by
  unfold addD
  split <;> first | (intro h; cases h; done) | (split <;> intro h <;> cases h)
theorem cat_listQ {l b : Addr} {xs ys : List V} {pins : List (Addr × Obj)} {σ : L2.St} {H : Hp} {s : Shared} {Q : VK} (I : Inv X pins σ H s) (ha : SqL X.K H l xs) (hb : SqL X.K H b ys) (hz : xs.length + ys.length ≤ sizeLine)
    (q : ∀ p, H p = none → Q (.ref p) (upd H p (.lst (xs ++ ys)))) : wpAny (model X.prog X.w) X.A (binaryOp .Add (.ref l) (.ref b)) (EP X pins σ Q) X.xe s := by
  obtain ⟨its, r1, ⟨⟨cls, dd, data, sl⟩, n, ho, hc, hdd, hd⟩, _⟩ := I.list ha
  obtain ⟨its2, r2, ⟨⟨cls2, dd2, data2, sl2⟩, n2, ho2, hc2, hdd2, hd2⟩, _⟩ := I.list hb
  simp only at hc hd hc2 hd2
  subst hc hd hc2 hd2
  have e : its.toArray ++ its2.toArray = (its ++ its2).toArray := by simp
  refine concat_meets ⟨_, ho, rfl⟩ ⟨_, ho2, rfl⟩ noFill_list_add seq_list_add PySem.F.slot_list_add PySem.F.entry_list_add (PySem.F.args_list_add_2 _ _) (list_addW l b its.toArray its2.toArray n n2 dd dd2 sl sl2 (by
    rw [List.size_toArray, List.size_toArray, ← r1.length, ← r2.length]; exact hz)) ⟨ho, ho2, ?_⟩
  rw [e]
  exact ⟨.ref _, _, I.lnew (t' := s.toks) (r1.append r2) (by rw [List.length_append]; exact hz), rfl, q _ I.fresh⟩
theorem op_addV : OpR X (binaryOp .Add) (rD X .v addD) := by
  intro pins s σ H x y v u Q I rx ry h
  obtain ⟨F, d, e, sm, sx, sy, h⟩ := h
  unfold addD at h
  split at h
  · cases sx.int; cases sy.int
    exact op_add pins s σ H _ _ v u Q I rx ry ⟨_, _, rfl, rfl, h _ F H (.refl sm) (.int _)⟩
  · split at h
    · rename_i hz
      cases sx.str; cases sy.str
      exact op_add_str pins s σ H _ _ v u Q I rx ry ⟨_, _, rfl, rfl, hz, h _ F H (.refl sm) (.str _)⟩
    · exact h.elim
  · split at h
    · rename_i hz
      obtain ⟨a, vs, rfl, ha, ra⟩ := sx.tuple sm
      obtain ⟨b, us, rfl, hb, rb⟩ := sy.tuple sm
      have hz' : vs.length + us.length ≤ sizeLine := by rw [ra.length, rb.length]; exact hz
      by_cases hnn : vs ≠ [] ∧ us ≠ []
      · cases rx; cases ry
        obtain ⟨its, r1, p1, _⟩ := I.tuple ha
        obtain ⟨its2, r2, p2, _⟩ := I.tuple hb
        refine HT.cat_tup p1 p2 (fun z => hnn.1 (r1.nil_iff.mp z)) (fun z => absurd (r2.nil_iff.mp z) hnn.2) (fun z => ?_) (by rw [← r1.length, ← r2.length]; exact hz')
        have hp := I.hok.fresh (Nat.le_refl s.heap.objs.size)
        have laid : ∀ ob : Obj, ob.cls = .type "tuple" → ob.dict = none → ∀ its3 n, ob.data = .seq its3 n → Vals (vs ++ us) its3.toList → (s.heap.push ob).get? s.heap.objs.size = some ob → EP X pins σ Q (.ref s.heap.objs.size) { s with heap := s.heap.push ob } := fun ob h1 h2 its3 n h3 h4 e => by
          have x := Ext.newF (o := .frz ob (.tup (vs ++ us))) sm hp
          exact ⟨.ref s.heap.objs.size, _, I.laid (t' := s.toks) (o := .frz ob (.tup (vs ++ us))) (fun b ob q => Heap.get?_push_of_some _ q) (Nat.le_refl _) ⟨e, by rw [List.length_append]; exact hz', _, h4, ⟨_, e, h1, n, by simpa using h3⟩⟩, rfl, h _ _ _ x (.tup (.inl (.inr ⟨ob, upd_same⟩)) (RpA.mono x.ff (ra.append rb)) fun _ => .of h2)⟩
        exact laid _ rfl rfl _ _ rfl (by simpa using r1.append r2) (Heap.get?_push_size _ rfl)
      refine op_catA pins s σ H _ _ v u Q I rx ry ⟨a, b, vs, us, rfl, rfl, ha, hb, hz', fun e => ?_, fun _ e => ?_, fun n1 n2 => absurd ⟨n1, n2⟩ hnn⟩
      · have e' := ra.nil_iff.mp e
        subst e'
        rcases sy with z | z
        · exact h _ F H (.refl sm) z
        · obtain ⟨_, _, ⟨_, _, z, _⟩ | ⟨_, _, z, _⟩⟩ := z <;> cases z
      · have e' := rb.nil_iff.mp e
        subst e'
        rw [List.append_nil] at h
        rcases sx with z | z
        · exact h _ F H (.refl sm) z
        · obtain ⟨_, _, ⟨_, _, z, _⟩ | ⟨_, _, z, _⟩⟩ := z <;> cases z
    · exact h.elim
  · split at h
    · rename_i hz
      obtain ⟨a, vs, rfl, ha, ra⟩ := sx.list sm
      obtain ⟨b, us, rfl, hb, rb⟩ := sy.list sm
      cases rx; cases ry
      refine cat_listQ I ha hb (by rw [ra.length, rb.length]; exact hz) fun p hp => ?_
      have x := Ext.newF (o := .lst (vs ++ us)) sm hp
      exact h _ _ _ x (.lst (.inl (.inl upd_same)) (RpA.mono x.ff (ra.append rb)))
    · exact h.elim
  · exact h.elim
/-- of lists, the new one the asker's own -/
def addL : D → D → M D
  | .list xs, .list ys => if xs.length + ys.length ≤ sizeLine then mok (.list (xs ++ ys)) else none
  | _, _ => none
theorem addL_ne (x y : D) (c : Value) : addL x y ≠ some (.error c) := by
  unfold addL
  split <;> first | (intro h; cases h; done) | (split <;> intro h <;> cases h)
theorem op_addO : OpR X (binaryOp .Add) (rD X .o addL) := by
  intro pins s σ H x y v u Q I rx ry h
  obtain ⟨F, d, e, sm, sx, sy, h⟩ := h
  unfold addL at h
  split at h
  · split at h
    · rename_i hz
      obtain ⟨a, vs, rfl, ha, ra⟩ := sx.list sm
      obtain ⟨b, us, rfl, hb, rb⟩ := sy.list sm
      cases rx; cases ry
      refine cat_listQ I ha hb (by rw [ra.length, rb.length]; exact hz) fun p hp => ?_
      have x := Ext.newO (o := .lst (vs ++ us)) sm hp
      exact h _ _ _ x ⟨⟨p, rfl, .inl ⟨_, _, rfl, upd_same, ra.append rb⟩⟩, p, rfl, hp, sm.free hp⟩
    · exact h.elim
  · exact h.elim

def int2 (C : Int → Int → Bool) (g : Int → Int → D) : D → D → M D
  | .int i, .int j => if C i j = true then mok (g i j) else none
  | _, _ => none
theorem int2_ne {C : Int → Int → Bool} {g : Int → Int → D} (x y : D) (c : Value) : int2 C g x y ≠ some (.error c) := by
  unfold int2
  split
  · split <;> intro h <;> cases h
  · intro h; cases h
theorem op_int2 {f : Value → Value → Sem Value} {C : Int → Int → Bool} {g : Int → Int → D} {gV : Int → Int → V} (hv : ∀ F i j, Rp X.K X.w F (gV i j) (g i j)) {P : Int → Int → Prop} (hP : ∀ i j, C i j = true → P i j) (ho : OpR X f (rI P gV)) : OpR X f (rD X .v (int2 C g)) := by
  intro pins s σ H x y v u Q I rx ry h
  obtain ⟨F, d, e, sm, sx, sy, h⟩ := h
  unfold int2 at h
  split at h
  · split at h
    · rename_i hc
      cases sx.int; cases sy.int
      exact ho pins s σ H _ _ v u Q I rx ry ⟨_, _, rfl, rfl, hP _ _ hc, h _ F H (.refl sm) (hv _ _ _)⟩
    · exact h.elim
  · exact h.elim
theorem rI_of {g : Int → Int → V} {f : Value → Value → Sem Value} (h : OpR X f (rI0 g)) : OpR X f (rI (fun _ _ => True) g) := OpR.imp h fun x y H Q ⟨i, j, e1, e2, _, q⟩ => ⟨i, j, e1, e2, q⟩
def subD : D → D → M D := int2 (fun _ _ => true) fun i j => .int (i - j)
def mulD : D → D → M D := int2 (fun i j => decide (i.natAbs < 18446744073709551616) || decide (j.natAbs < 18446744073709551616)) fun i j => .int (i * j)
def modD : D → D → M D := int2 (fun _ j => decide (0 < j)) fun i j => .int (i % j)
def divD : D → D → M D := int2 (fun _ j => decide (0 < j) && decide (j.natAbs < 1073741824)) fun i j => .int (i / j)
def powD : D → D → M D := int2 (fun i j => decide (0 ≤ j) && decide (j.natAbs ≤ 1000000) && decide (i.natAbs < 18446744073709551616)) fun i j => .int (i ^ j.toNat)
theorem op_subV : OpR X (binaryOp .Sub) (rD X .v subD) := op_int2 (fun _ _ _ => .int _) (fun _ _ _ => trivial) (rI_of op_sub)
theorem cmul_of {i j : Int} (h : (decide (i.natAbs < 18446744073709551616) || decide (j.natAbs < 18446744073709551616)) = true) : CMul i j := by
  simp only [Bool.or_eq_true, decide_eq_true_eq] at h
  unfold CMul
  rcases h with h | h
  · exact .inl ⟨by omega, by omega⟩
  · exact .inr ⟨by omega, by omega⟩
theorem op_mulV : OpR X (binaryOp .Mult) (rD X .v mulD) := op_int2 (fun _ _ _ => .int _) (fun i j h => cmul_of h) op_mul
theorem op_modV : OpR X (binaryOp .Mod) (rD X .v modD) := op_int2 (fun _ _ _ => .int _) (fun i j h => of_decide_eq_true h) op_mod
theorem op_divV : OpR X (binaryOp .FloorDiv) (rD X .v divD) := op_int2 (fun _ _ _ => .int _) (fun i j h => by
  simp only [Bool.and_eq_true, decide_eq_true_eq] at h
  exact ⟨h.1, by omega⟩) op_fdiv
theorem op_powV : OpR X (binaryOp .Pow) (rD X .v powD) := op_int2 (fun _ _ _ => .int _) (fun i j h => by
  simp only [Bool.and_eq_true, decide_eq_true_eq] at h
  exact ⟨h.1.1, by omega, h.2⟩) op_pow
/-! ### order of numbers -/
def ltD : D → D → M D := int2 (fun _ _ => true) fun i j => .bool (decide (i < j))
def leD : D → D → M D := int2 (fun _ _ => true) fun i j => .bool (decide (i ≤ j))
def gtD : D → D → M D := int2 (fun _ _ => true) fun i j => .bool (decide (j < i))
def geD : D → D → M D := int2 (fun _ _ => true) fun i j => .bool (decide (j ≤ i))
theorem op_ltV : OpR X (compareOp .Lt) (rD X .v ltD) := op_int2 (fun _ _ _ => .bl _) (fun _ _ _ => trivial) (rI_of op_lt)
theorem op_leV : OpR X (compareOp .LtE) (rD X .v leD) := op_int2 (fun _ _ _ => .bl _) (fun _ _ _ => trivial) (rI_of op_le)
theorem op_gtV : OpR X (compareOp .Gt) (rD X .v gtD) := op_int2 (fun _ _ _ => .bl _) (fun _ _ _ => trivial) (rI_of op_gt)
theorem op_geV : OpR X (compareOp .GtE) (rD X .v geD) := op_int2 (fun _ _ _ => .bl _) (fun _ _ _ => trivial) (rI_of op_ge)
/-! ### ==, != -/
def eqOk (d : D) : Bool := noD d && decide (d.depth ≤ 60)
def eqD (d e : D) : M D := if eqOk d = true ∧ eqOk e = true then mok (.bool (PyData.eqv d e)) else none
def neD (d e : D) : M D := if eqOk d = true ∧ eqOk e = true then mok (.bool (!PyData.eqv d e)) else none
theorem eqD_ne (x y : D) (c : Value) : eqD x y ≠ some (.error c) := by
  unfold eqD
  split <;> intro h <;> cases h
theorem neD_ne (x y : D) (c : Value) : neD x y ≠ some (.error c) := by
  unfold neD
  split <;> intro h <;> cases h
theorem eqOk_room {A : Around} {d e : D} (h : eqOk d = true) (hu : A.units + 64 < cLine) : A.units + min d.depth e.depth < cLine := by
  simp only [eqOk, Bool.and_eq_true, decide_eq_true_eq] at h
  have : min d.depth e.depth ≤ d.depth := Nat.min_le_left _ _
  omega
theorem eqOk_noD {d : D} (h : eqOk d = true) : noD d = true := by
  simp only [eqOk, Bool.and_eq_true] at h
  exact h.1
theorem op_eqV (hu : X.A.units + 64 < cLine) : OpR X (compareOp .Eq) (rD X .v eqD) := by
  intro pins s σ H x y v u Q I rx ry h
  obtain ⟨F, d, e, sm, sx, sy, h⟩ := h
  unfold eqD at h
  split at h
  · rename_i hc
    obtain ⟨as, r1⟩ := Rp.reads I d x v (eqOk_noD hc.1) (sx.all sm) rx
    obtain ⟨bs, r2⟩ := Rp.reads I e y u (eqOk_noD hc.2) (sy.all sm) ry
    exact rc_rd r1 r2 (eqOk_noD hc.1) (eqOk_noD hc.2) (eqOk_room hc.1 hu) _ _ _ _ ⟨.bl _, H, I, rfl, h _ F H (.refl sm) (.bl _)⟩
  · exact h.elim
theorem op_neV (hu : X.A.units + 64 < cLine) : OpR X (compareOp .NotEq) (rD X .v neD) := by
  intro pins s σ H x y v u Q I rx ry h
  obtain ⟨F, d, e, sm, sx, sy, h⟩ := h
  unfold neD at h
  split at h
  · rename_i hc
    obtain ⟨as, r1⟩ := Rp.reads I d x v (eqOk_noD hc.1) (sx.all sm) rx
    obtain ⟨bs, r2⟩ := Rp.reads I e y u (eqOk_noD hc.2) (sy.all sm) ry
    exact rn_rd r1 r2 (eqOk_noD hc.1) (eqOk_noD hc.2) (eqOk_room hc.1 hu) _ _ _ _ ⟨.bl _, H, I, rfl, h _ F H (.refl sm) (.bl _)⟩
  · exact h.elim
/-! ### is None -/
def isNone : D → Bool
  | .none => true
  | _ => false
def isD (d e : D) : M D := match e with
  | .none => mok (.bool (isNone d))
  | _ => none
def isNotD (d e : D) : M D := match e with
  | .none => mok (.bool (!isNone d))
  | _ => none
theorem isD_ne (x y : D) (c : Value) : isD x y ≠ some (.error c) := by
  unfold isD
  split <;> intro h <;> cases h
theorem isNotD_ne (x y : D) (c : Value) : isNotD x y ≠ some (.error c) := by
  unfold isNotD
  split <;> intro h <;> cases h
theorem non_iff {F H : Hp} {v : V} {d : D} (x : Sh X.K X.w F H v d) : decide (v = .non) = isNone d := by
  rw [x.none_iff]
  cases d <;> rfl
theorem op_isV : OpR X (compareOp .Is) (rD X .v isD) := by
  intro pins s σ H x y v u Q I rx ry h
  obtain ⟨F, d, e, sm, sx, sy, h⟩ := h
  unfold isD at h
  split at h
  · have e1 : y = .non := by have := non_iff sy; simpa [isNone] using this
    subst e1
    refine op_isN pins s σ H _ _ v u Q I rx ry ⟨rfl, ?_⟩
    rw [non_iff sx]
    exact h _ F H (.refl sm) (.bl _)
  · exact h.elim
theorem op_isNotV : OpR X (compareOp .IsNot) (rD X .v isNotD) := by
  intro pins s σ H x y v u Q I rx ry h
  obtain ⟨F, d, e, sm, sx, sy, h⟩ := h
  unfold isNotD at h
  split at h
  · have e1 : y = .non := by have := non_iff sy; simpa [isNone] using this
    subst e1
    refine op_notN pins s σ H _ _ v u Q I rx ry ⟨rfl, ?_⟩
    rw [non_iff sx]
    exact h _ F H (.refl sm) (.bl _)
  · exact h.elim

/-! ### items -/
def getD' : D → D → M D
  | .list xs, .int i => match atI xs i with
    | some d => mok d
    | none => none
  | .tuple xs, .int i => match atI xs i with
    | some d => mok d
    | none => none
  | .str z, .int i => if z.length ≤ sizeLine then match atI z.cps.toList i with
    | some c => mok (.str ⟨#[c]⟩)
    | none => none else none
  | _, _ => none
theorem getD'_ne (x y : D) (c : Value) : getD' x y ≠ some (.error c) := by
  unfold getD'
  split
  · split <;> intro h <;> cases h
  · split <;> intro h <;> cases h
  · split
    · split <;> intro h <;> cases h
    · intro h; cases h
  · intro h; cases h
theorem atI_rel {F : Hp} {vs : List V} {ds : List D} {i : Int} {d : D} (r : RpA X.K X.w F vs ds) (h : atI ds i = some d) : ∃ v, atI vs i = some v ∧ Rp X.K X.w F v d := by
  unfold atI at h ⊢
  rw [r.length]
  cases q : ixN ds.length i with
  | none => rw [q] at h; cases h
  | some j =>
    rw [q] at h
    obtain ⟨v, h1, h2⟩ := r.get (show ds[j]? = some d from h)
    exact ⟨v, h1, h2⟩
theorem ix_V : IxR X (rD X .v getD') := by
  intro value slice pins s σ H x y v u Q I rx ry h hs
  obtain ⟨F, d, e, sm, sx, sy, h⟩ := h
  unfold getD' at h
  split at h
  · split at h
    · rename_i hd
      cases sy.int
      obtain ⟨a, vs, rfl, ha, ra⟩ := sx.list sm
      obtain ⟨z, h1, h2⟩ := atI_rel ra hd
      exact ix_list value slice pins s σ H _ _ v u Q I rx ry ⟨a, vs, _, z, rfl, rfl, ha, h1, h _ F H (.refl sm) h2⟩ hs
    · exact h.elim
  · split at h
    · rename_i hd
      cases sy.int
      obtain ⟨a, vs, rfl, ha, ra⟩ := sx.tuple sm
      obtain ⟨z, h1, h2⟩ := atI_rel ra hd
      exact ix_tup value slice pins s σ H _ _ v u Q I rx ry ⟨a, vs, _, z, rfl, rfl, ha, h1, h _ F H (.refl sm) h2⟩ hs
    · exact h.elim
  · split at h
    · rename_i hz
      split at h
      · rename_i hd
        cases sy.int
        cases sx.str
        exact ix_str value slice pins s σ H _ _ v u Q I rx ry ⟨_, _, _, rfl, rfl, hz, hd, h _ F H (.refl sm) (.str _)⟩ hs
      · exact h.elim
    · exact h.elim
  · exact h.elim
variable {W : WX} {a b : Expr} {fa fb : DEnv → M D} {pos : Pos}
theorem de_ix (ha : DE X W .s a fa) (hb : DE X W .s b fb) (hs : PlainIx b := by exact fun _ _ => rfl) : DE X W .v (.Subscript a b pos) (d2 getD' fa fb) := by
  obtain ⟨ta, ha, qa⟩ := ha
  obtain ⟨tb, hb, qb⟩ := hb
  exact ⟨_, pe_ix ix_V ha hb hs, fun B F H σ env Q ok h => two (R := rD X .v getD') qa qb (fun _ _ _ _ h => h) getD'_ne ok h⟩

/-! ### slices -/
structure DO (X : Cx) (W : WX) (e : Option Expr) (f : DEnv → M (Option Int)) : Prop where
  run : ∃ t : TO, PO X e t ∧ ∀ (B : Bs X.A.handled) (F H : Hp) (σ : L2.St) (env : DEnv) (Q : Option Int → Hp → Prop), EnvOk X.K X.w B F H σ env →
    Ans (f env) (fun o => ∀ F' H', Ext F H F' H' → Q o H') (fun c => ∀ F' H', Ext F H F' H' → W c none σ H') → t σ H Q
def dNo (_ : DEnv) : M (Option Int) := mok none
def asI : D → M (Option Int)
  | .int i => mok (some i)
  | _ => none
def dSome (f : DEnv → M D) (env : DEnv) : M (Option Int) := mbind (f env) asI
theorem do_none : DO X W none dNo := ⟨_, po_none, fun B F H σ env Q ok h => h F H (.refl ok.fh)⟩
theorem do_some (ha : DE X W .v a fa) : DO X W (some a) (dSome fa) := by
  obtain ⟨ta, ha, qa⟩ := ha
  refine ⟨_, po_some ha, fun B F H σ env Q ok h => qa B F H σ env _ ok (h.bind.mono (fun d k v F' H' x r => ?_) fun c k => k)⟩
  have r : Rp X.K X.w F' v d := r
  cases r with
  | int i => exact ⟨i, rfl, k F' H' x⟩
  | _ => exact k.elim
def cutA {α : Type} (xs : List α) (lo hi : Option Int) : List α := (xs.drop (HT.sIx xs.length 0 lo)).take (HT.sIx xs.length xs.length hi - HT.sIx xs.length 0 lo)
theorem cutA_whole {α : Type} {xs : List α} {lo hi : Option Int} (h : HT.sIx xs.length 0 lo = 0 ∧ HT.sIx xs.length xs.length hi = xs.length) : cutA xs lo hi = xs := by
  unfold cutA
  rw [h.1, h.2]
  simp
def cutD (d : D) (lo hi : Option Int) : M D := match d with
  | .list xs => mok (.list (cutA xs lo hi))
  | .tuple xs => mok (.tuple (cutA xs lo hi))
  | .str z => if z.length ≤ sizeLine then mok (.str (cutS z lo hi)) else none
  | _ => none
def cutO (d : D) (lo hi : Option Int) : M D := match d with
  | .list xs => mok (.list (cutA xs lo hi))
  | _ => none
def rS (X : Cx) (md : Md) (g : D → Option Int → Option Int → M D) : V → Option Int → Option Int → Hp → VK → Prop := fun x lo hi H Q => ∃ F d, Same F H ∧ Sh X.K X.w F H x d ∧
  Ans (g d lo hi) (fun z => ∀ v F' H', Ext F H F' H' → RM X.K X.w H F' H' md v z → Q v H') (fun _ => False)
theorem cut_rel {F : Hp} {vs : List V} {ds : List D} {lo hi : Option Int} (r : RpA X.K X.w F vs ds) : RpA X.K X.w F (cutV vs lo hi) (cutA ds lo hi) := by
  unfold cutV cutA
  rw [r.length]
  exact (r.drop _).take _
theorem sl_V : SlR X (rS X .v cutD) := by
  intro pins s σ H x v vl vu lo hi sl Q I rx hs pl pu h
  obtain ⟨F, d, sm, sx, h⟩ := h
  unfold cutD at h
  split at h
  · obtain ⟨a, vs, rfl, ha, ra⟩ := sx.list sm
    refine sl_list pins s σ H _ v vl vu lo hi sl Q I rx hs pl pu ⟨a, vs, rfl, ha, fun p hp => ?_⟩
    have x := Ext.newF (o := .lst (cutV vs lo hi)) sm hp
    exact h _ _ _ x (.lst (.inl (.inl upd_same)) (RpA.mono x.ff (cut_rel ra)))
  · obtain ⟨a, vs, rfl, ha, ra⟩ := sx.tuple sm
    by_cases hw : HT.sIx vs.length 0 lo = 0 ∧ HT.sIx vs.length vs.length hi = vs.length
    · refine sl_tupA pins s σ H _ v vl vu lo hi sl Q I rx hs pl pu ⟨a, vs, rfl, ha, fun hw => ?_, fun hn => absurd hw hn⟩
      rw [ra.length] at hw
      rw [cutA_whole hw] at h
      rcases sx with z | z
      · exact h _ F H (.refl sm) z
      · obtain ⟨_, _, ⟨_, _, z, _⟩ | ⟨_, _, z, _⟩⟩ := z <;> cases z
    · cases rx
      obtain ⟨its, r, ht, hz⟩ := I.tuple ha
      have hlen : its.toArray.size = vs.length := by rw [List.size_toArray]; exact r.length.symm
      refine ⟨"tuple", _, PyProof.Rows.slot_tuple_getitem.lookup, ht.typeIs, HT.getItem_tuple_cut ht hs pl pu (by rw [hlen]; exact hw) ?_ (by rw [hlen]; exact hz)⟩
      rw [hlen]
      have hp := I.hok.fresh (Nat.le_refl s.heap.objs.size)
      have laid : ∀ ob : Obj, ob.cls = .type "tuple" → ob.dict = none → ∀ its2 n, ob.data = .seq its2 n → Vals (cutV vs lo hi) its2.toList → (s.heap.push ob).get? s.heap.objs.size = some ob → EP X pins σ Q (.ref s.heap.objs.size) { s with heap := s.heap.push ob } := fun ob h1 h2 its2 n h3 h4 e => by
        have x := Ext.newF (o := .frz ob (.tup (cutV vs lo hi))) sm hp
        refine ⟨.ref s.heap.objs.size, _, I.laid (t' := s.toks) (o := .frz ob (.tup (cutV vs lo hi))) (fun b ob q => Heap.get?_push_of_some _ q) (Nat.le_refl _) ⟨e, Nat.le_trans (cutV_length vs lo hi) hz, _, h4, ⟨_, e, h1, n, by simpa using h3⟩⟩, rfl, h _ _ _ x (.tup (.inl (.inr ⟨ob, upd_same⟩)) (RpA.mono x.ff (cut_rel ra)) fun _ => .of h2)⟩
      exact laid _ rfl rfl _ _ rfl (by unfold cutV; simpa using (r.drop (HT.sIx vs.length 0 lo)).take (HT.sIx vs.length vs.length hi - HT.sIx vs.length 0 lo)) (Heap.get?_push_size _ rfl)
  · split at h
    · rename_i hz
      cases sx.str
      exact sl_str pins s σ H _ v vl vu lo hi sl Q I rx hs pl pu ⟨_, rfl, hz, h _ F H (.refl sm) (.str _)⟩
    · exact h.elim
  · exact h.elim
theorem sl_O : SlR X (rS X .o cutO) := by
  intro pins s σ H x v vl vu lo hi sl Q I rx hs pl pu h
  obtain ⟨F, d, sm, sx, h⟩ := h
  unfold cutO at h
  split at h
  · obtain ⟨a, vs, rfl, ha, ra⟩ := sx.list sm
    refine sl_list pins s σ H _ v vl vu lo hi sl Q I rx hs pl pu ⟨a, vs, rfl, ha, fun p hp => ?_⟩
    have x := Ext.newO (o := .lst (cutV vs lo hi)) sm hp
    exact h _ _ _ x ⟨⟨p, rfl, .inl ⟨_, _, rfl, upd_same, cut_rel ra⟩⟩, p, rfl, hp, sm.free hp⟩
  · exact h.elim
theorem cutD_ne (d : D) (lo hi : Option Int) (c : Value) : cutD d lo hi ≠ some (.error c) := by
  unfold cutD
  split <;> first | (intro h; cases h; done) | (split <;> intro h <;> cases h)
theorem cutO_ne (d : D) (lo hi : Option Int) (c : Value) : cutO d lo hi ≠ some (.error c) := by
  unfold cutO
  split <;> intro h <;> cases h
def dSl (g : D → Option Int → Option Int → M D) (f : DEnv → M D) (p q : DEnv → M (Option Int)) (env : DEnv) : M D := mbind (f env) fun x => mbind (p env) fun l => mbind (q env) fun u => g x l u
variable {lo hi : Option Expr} {p q : DEnv → M (Option Int)} {p2 : Pos}
theorem de_slice {md : Md} {g : D → Option Int → Option Int → M D} (hr : SlR X (rS X md g)) (hg : ∀ d l u c, g d l u ≠ some (.error c)) (ha : DE X W .s a fa) (hl : DO X W lo p) (hu : DO X W hi q) : DE X W md (.Subscript a (.Slice lo hi none p2) pos) (dSl g fa p q) := by
  obtain ⟨ta, ha, qa⟩ := ha
  obtain ⟨tl, hl, ql⟩ := hl
  obtain ⟨th, hh, qh⟩ := hu
  refine ⟨_, pe_slice hr ha hl hh, fun B F H σ env Q ok h => qa B F H σ env _ ok (h.bind.mono (fun d1 h1 x F1 H1 e1 r1 => ?_) fun c k => k)⟩
  refine ql B F1 H1 σ env _ (ok.mono e1) (h1.bind.mono (fun o1 h2 F2 H2 e2 => ?_) fun c k F' H' e => k F' H' (e1.trans e))
  refine qh B F2 H2 σ env _ ((ok.mono e1).mono e2) (h2.bind.mono (fun o2 h3 F3 H3 e3 => ?_) fun c k F' H' e => k F' H' ((e1.trans e2).trans e))
  exact ⟨F3, d1, e3.fh, Sh.mono (Sh.mono r1 e2.ff e2.hh) e3.ff e3.hh, h3.monoE (fun z _ k v F' H' e r => k v F' H' (((e1.trans e2).trans e3).trans e) (RM.back ((e1.hh.trans e2.hh).trans e3.hh) r)) fun c z _ => hg _ _ _ _ z⟩

/-! ### len, tuple, list, abs, max, min, sum, str -/
def lenD : List D → M D
  | [.list xs] => mok (.int xs.length)
  | [.tuple xs] => mok (.int xs.length)
  | [.str z] => if z.length ≤ sizeLine then mok (.int z.length) else none
  | _ => none
theorem lenD_ne (ds : List D) (c : Value) : lenD ds ≠ some (.error c) := by
  unfold lenD
  split <;> first | (intro h; cases h; done) | (split <;> intro h <;> cases h)
theorem pair1 {R : V → D → Prop} {xs : List V} {d : D} (h : Paired R xs [d]) : ∃ v, xs = [v] ∧ R v d := by
  cases h with
  | cons h t => cases t; exact ⟨_, rfl, h⟩
theorem pair2 {R : V → D → Prop} {xs : List V} {d e : D} (h : Paired R xs [d, e]) : ∃ v u, xs = [v, u] ∧ R v d ∧ R u e := by
  cases h with
  | cons h t =>
    obtain ⟨u, rfl, k⟩ := pair1 t
    exact ⟨_, u, rfl, h, k⟩
theorem call_lenV : CallR X (.builtin "len") (rC X .v lenD) := by
  intro pins s σ H xs us Q I r h
  obtain ⟨F, ds, sm, sx, h⟩ := h
  unfold lenD at h
  split at h
  · obtain ⟨v, rfl, k⟩ := pair1 sx
    obtain ⟨a, vs, rfl, ha, ra⟩ := k.list sm
    refine call_len_seq pins s σ H _ us Q I r ⟨a, vs, rfl, .inl ha, ?_⟩
    rw [ra.length]
    exact h _ F H (.refl sm) (.int _)
  · obtain ⟨v, rfl, k⟩ := pair1 sx
    obtain ⟨a, vs, rfl, ha, ra⟩ := k.tuple sm
    refine call_len_seq pins s σ H _ us Q I r ⟨a, vs, rfl, .inr ha, ?_⟩
    rw [ra.length]
    exact h _ F H (.refl sm) (.int _)
  · split at h
    · rename_i hz
      obtain ⟨v, rfl, k⟩ := pair1 sx
      cases k.str
      exact call_len_str pins s σ H _ us Q I r ⟨_, rfl, hz, h _ F H (.refl sm) (.int _)⟩
    · exact h.elim
  · exact h.elim
def tupleD : List D → M D
  | [.list xs] => mok (.tuple xs)
  | [.tuple xs] => mok (.tuple xs)
  | _ => none
theorem tupleD_ne (ds : List D) (c : Value) : tupleD ds ≠ some (.error c) := by
  unfold tupleD
  split <;> intro h <;> cases h
/-- tuple(list): the object that is laid has no dict -/
theorem tuple_ofN {pins : List (Addr × Obj)} {s : Shared} {σ : L2.St} {H : Hp} {p : Addr} {ys : List V} {Q : VK} (I : Inv X pins σ H s) (hq : SqL X.K H p ys) (q : ∀ l, H l = none → ∀ o : Obj, o.dict = none → Q (.ref l) (upd H l (.frz o (.tup ys)))) :
    wpAny (model X.prog X.w) X.A (call (.type "tuple") [.ref p]) (EP X pins σ Q) X.xe s := by
  obtain ⟨its, r, pl, hz⟩ := I.list hq
  have hlen := r.length
  refine call_tuple_list pl.isList (fun h' kp => ?_) (by simp only [List.size_toArray] <;> omega)
  have I1 : Inv X pins σ H { s with heap := h' } := I.kept (t' := s.toks) kp
  have e := Heap.get?_push_size (o := { cls := .type "tuple", data := .seq its.toArray }) h' rfl
  exact ⟨.ref h'.objs.size, _, I1.laid (o := .frz { cls := .type "tuple", data := .seq its.toArray } (.tup ys)) (t' := s.toks) (fun b o e => Heap.get?_push_of_some _ e) (Nat.le_refl _) ⟨e, hz, its, r, ⟨_, e, rfl, _, rfl⟩⟩, rfl, q _ (I1.hok.fresh (Nat.le_refl _)) _ rfl⟩
theorem call_tupleV : CallR X (.type "tuple") (rC X .v tupleD) := by
  intro pins s σ H xs us Q I r h
  obtain ⟨F, ds, sm, sx, h⟩ := h
  unfold tupleD at h
  split at h
  · obtain ⟨v, rfl, k⟩ := pair1 sx
    obtain ⟨a, vs, rfl, ha, ra⟩ := k.list sm
    obtain rfl := Vals.ref1 r
    refine tuple_ofN I ha fun p hp o ho => ?_
    have x := Ext.newF (o := .frz o (.tup vs)) sm hp
    exact h _ _ _ x (.tup (.inl (.inr ⟨o, upd_same⟩)) (RpA.mono x.ff ra) fun _ => .of ho)
  · obtain ⟨v, rfl, k⟩ := pair1 sx
    obtain ⟨a, vs, rfl, ha, ra⟩ := k.tuple sm
    refine call_tuple_of pins s σ H _ us Q I r ⟨a, vs, rfl, .inr ⟨ha, ?_⟩⟩
    rcases k with z | z
    · exact h _ F H (.refl sm) z
    · obtain ⟨_, _, ⟨_, _, z, _⟩ | ⟨_, _, z, _⟩⟩ := z <;> cases z
  · exact h.elim
def listD : List D → M D
  | [.list xs] => mok (.list xs)
  | [.tuple xs] => mok (.list xs)
  | _ => none
theorem listD_ne (ds : List D) (c : Value) : listD ds ≠ some (.error c) := by
  unfold listD
  split <;> intro h <;> cases h
theorem call_listO : CallR X (.type "list") (rC X .o listD) := by
  intro pins s σ H xs us Q I r h
  obtain ⟨F, ds, sm, sx, h⟩ := h
  unfold listD at h
  split at h
  · obtain ⟨v, rfl, k⟩ := pair1 sx
    obtain ⟨a, vs, rfl, ha, ra⟩ := k.list sm
    refine call_list_of pins s σ H _ us Q I r ⟨a, vs, rfl, .inl ha, fun p hp => ?_⟩
    have x := Ext.newO (o := .lst vs) sm hp
    exact h _ _ _ x ⟨⟨p, rfl, .inl ⟨_, _, rfl, upd_same, ra⟩⟩, p, rfl, hp, sm.free hp⟩
  · obtain ⟨v, rfl, k⟩ := pair1 sx
    obtain ⟨a, vs, rfl, ha, ra⟩ := k.tuple sm
    refine call_list_of pins s σ H _ us Q I r ⟨a, vs, rfl, .inr ha, fun p hp => ?_⟩
    have x := Ext.newO (o := .lst vs) sm hp
    exact h _ _ _ x ⟨⟨p, rfl, .inl ⟨_, _, rfl, upd_same, ra⟩⟩, p, rfl, hp, sm.free hp⟩
  · exact h.elim
def absD : List D → M D
  | [.int i] => mok (.int (if i < 0 then -i else i))
  | _ => none
theorem absD_ne (ds : List D) (c : Value) : absD ds ≠ some (.error c) := by
  unfold absD
  split <;> intro h <;> cases h
theorem call_absV : CallR X (.builtin "abs") (rC X .v absD) := by
  intro pins s σ H xs us Q I r h
  obtain ⟨F, ds, sm, sx, h⟩ := h
  unfold absD at h
  split at h
  · obtain ⟨v, rfl, k⟩ := pair1 sx
    cases k.int
    exact call_abs pins s σ H _ us Q I r ⟨_, rfl, h _ F H (.refl sm) (.int _)⟩
  · exact h.elim
def maxD : List D → M D
  | [.int i, .int j] => mok (.int (if j > i then j else i))
  | _ => none
def minD : List D → M D
  | [.int i, .int j] => mok (.int (if j < i then j else i))
  | _ => none
theorem maxD_ne (ds : List D) (c : Value) : maxD ds ≠ some (.error c) := by
  unfold maxD
  split <;> intro h <;> cases h
theorem minD_ne (ds : List D) (c : Value) : minD ds ≠ some (.error c) := by
  unfold minD
  split <;> intro h <;> cases h
theorem call_maxV (hc : X.calm = true) : CallR X (.builtin "max") (rC X .v maxD) := by
  intro pins s σ H xs us Q I r h
  obtain ⟨F, ds, sm, sx, h⟩ := h
  unfold maxD at h
  split at h
  · obtain ⟨v, u, rfl, k, k2⟩ := pair2 sx
    cases k.int; cases k2.int
    exact call_max2 hc pins s σ H _ us Q I r ⟨_, _, rfl, h _ F H (.refl sm) (.int _)⟩
  · exact h.elim
theorem call_minV (hc : X.calm = true) : CallR X (.builtin "min") (rC X .v minD) := by
  intro pins s σ H xs us Q I r h
  obtain ⟨F, ds, sm, sx, h⟩ := h
  unfold minD at h
  split at h
  · obtain ⟨v, u, rfl, k, k2⟩ := pair2 sx
    cases k.int; cases k2.int
    exact call_min2 hc pins s σ H _ us Q I r ⟨_, _, rfl, h _ F H (.refl sm) (.int _)⟩
  · exact h.elim
def asInt : D → Option Int
  | .int i => some i
  | _ => none
/-- a list of whole numbers -/
def intsOf : List D → Option (List Int)
  | [] => some []
  | .int i :: r => (intsOf r).map (i :: ·)
  | _ :: _ => none
theorem intsOf_map (ns : List Int) : intsOf (ns.map .int) = some ns := by
  induction ns with
  | nil => rfl
  | cons n r ih => simp [intsOf, ih]
theorem of_intsOf : ∀ {ds : List D} {ns : List Int}, intsOf ds = some ns → ds = ns.map .int
  | [], _, h => by cases h; rfl
  | .int i :: r, ns, h => by
    unfold intsOf at h
    cases q : intsOf r with
    | none => rw [q] at h; cases h
    | some ms =>
      rw [q] at h
      cases h
      rw [of_intsOf q]
      rfl
  | .none :: _, _, h => by cases h
  | .bool _ :: _, _, h => by cases h
  | .str _ :: _, _, h => by cases h
  | .list _ :: _, _, h => by cases h
  | .tuple _ :: _, _, h => by cases h
  | .dict _ :: _, _, h => by cases h
theorem ints_rel {F : Hp} : ∀ {vs : List V} {ns : List Int}, RpA X.K X.w F vs (ns.map .int) → vs = ns.map V.int
  | _, [], h => by cases h; rfl
  | _, n :: ns, h => by
    cases h with
    | cons h1 h2 =>
      cases h1
      rw [ints_rel h2]
      rfl
def sumD : List D → M D
  | [.list xs] => match intsOf xs with
    | some ns => mok (.int ns.sum)
    | none => none
  | _ => none
theorem sumD_ne (ds : List D) (c : Value) : sumD ds ≠ some (.error c) := by
  unfold sumD
  split
  · split <;> intro h <;> cases h
  · intro h; cases h
theorem call_sumV (hc : X.calm = true) : CallR X (.builtin "sum") (rC X .v sumD) := by
  intro pins s σ H xs us Q I r h
  obtain ⟨F, ds, sm, sx, h⟩ := h
  unfold sumD at h
  split at h
  · split at h
    · rename_i hn
      obtain ⟨v, rfl, k⟩ := pair1 sx
      obtain ⟨a, vs, rfl, ha, ra⟩ := k.list sm
      rw [of_intsOf hn] at ra
      rw [ints_rel ra] at ha
      exact cr_sum hc pins s σ H _ us Q I r ⟨a, _, rfl, ha, h _ F H (.refl sm) (.int _)⟩
    · exact h.elim
  · exact h.elim
def strD : List D → M D
  | [.int i] => if i.natAbs.log2 < 1920 then mok (.str (toString i)) else none
  | _ => none
theorem strD_ne (ds : List D) (c : Value) : strD ds ≠ some (.error c) := by
  unfold strD
  split
  · split <;> intro h <;> cases h
  · intro h; cases h
theorem call_strV : CallR X (.type "str") (rC X .v strD) := by
  intro pins s σ H xs us Q I r h
  obtain ⟨F, ds, sm, sx, h⟩ := h
  unfold strD at h
  split at h
  · split at h
    · rename_i hz
      obtain ⟨v, rfl, k⟩ := pair1 sx
      cases k.int
      exact call_str_int pins s σ H _ us Q I r ⟨_, rfl, hz, h _ F H (.refl sm) (.str _)⟩
    · exact h.elim
  · exact h.elim

/-! ### isinstance(x, T), T a built-in class by its name -/
def tyD : D → Option String
  | .none => some "NoneType"
  | .bool _ => some "bool"
  | .int _ => some "int"
  | .str _ => some "str"
  | .list _ => some "list"
  | .tuple _ => some "tuple"
  | .dict _ => none
theorem sqL_ty {H : Hp} {a : Addr} {vs : List V} (h : SqL X.K H a vs) : TyX X.K H (.ref a) (.type "list") := by
  rcases h with (h | ⟨o, h⟩) | ⟨o, its, n, h, hc, _⟩
  · exact .base (.lst h)
  · exact .base (.frz h)
  · exact .kList h hc
theorem sqT_ty {H : Hp} {a : Addr} {vs : List V} (h : SqT X.K H a vs) : TyX X.K H (.ref a) (.type "tuple") := by
  rcases h with (h | ⟨o, h⟩) | ⟨o, its, n, h, hc, _⟩
  · exact .base (.tup h)
  · exact .fTuple h
  · exact .kTuple h hc
theorem ty_rel {F H : Hp} {v : V} {d : D} {T : String} (k : Sh X.K X.w F H v d) (sm : Same F H) (h : tyD d = some T) : TyX X.K H v (.type T) := by
  cases d with
  | none =>
    have e : v = .non := by have := non_iff k; simpa [isNone] using this
    subst e; cases h; exact .base .non
  | bool b => cases k.bool; cases h; exact .base (.bl b)
  | int i => cases k.int; cases h; exact .base (.int i)
  | str x => cases k.str; cases h; exact .base (.str x)
  | list xs =>
    obtain ⟨a, vs, rfl, ha, ra⟩ := k.list sm
    cases h; exact sqL_ty ha
  | tuple xs =>
    obtain ⟨a, vs, rfl, ha, ra⟩ := k.tuple sm
    cases h; exact sqT_ty ha
  | dict _ => cases h
def isiB (T : String) (d : D) : Option Bool := match d with
  | .dict _ => none
  | .none => kitB "NoneType" T
  | .bool _ => kitB "bool" T
  | .int _ => kitB "int" T
  | .str _ => kitB "str" T
  | .list _ => kitB "list" T
  | .tuple _ => kitB "tuple" T
theorem isiB_ty {T : String} {d : D} {b : Bool} (h : isiB T d = some b) : ∃ t, tyD d = some t ∧ kitB t T = some b := by
  cases d <;> first | exact ⟨_, rfl, h⟩ | cases h
def isiD (T : String) (d : D) : M D := match isiB T d with
  | some b => mok (.bool b)
  | none => none
theorem de_isi {T x : Str} {t : String} {p p2 : Pos} (hg : Gl X "isinstance") (hm : X.mg "isinstance" = none) (hgT : Gl X x) (hmT : X.mg x = none) (hvT : bootBuiltins x = some (.type t)) (ha : DE X W .s a fa)
    (hn : x ≠ "__name__" := by decide) (hdb : (x == ("__debug__" : Str)) = false := by decide) (hs : starEach [a, .Name x p2] X.env = (false, eval a X.env) :: starEach [.Name x p2] X.env := by rfl)
    (hs2 : starEach [.Name x p2] X.env = (false, eval (.Name x p2) X.env) :: starEach [] X.env := by rfl) (hpl : (backTo pos (starEach [.Name x p2] X.env)).any (·.1) = false := by rfl) :
    DE X W .v (.Call (.Name "isinstance" p) [a, .Name x p2] [] pos) (d1 (isiD t) fa) := by
  obtain ⟨ta, ha, qa⟩ := ha
  refine ⟨_, pe_callB call_isi hg hm (by decide +kernel) (pa_cons ha (pa_cons (pe_bltn (v := .ty t) hgT hmT hvT rfl hn hdb) pa_nil hs2) hs) (by decide) (by decide) hs hpl, fun B F H σ env Q ok h => ?_⟩
  refine qa B F H σ env _ ok (h.bind.mono (fun d k v F' H' x r => ?_) fun c k => k)
  unfold isiD at k
  split at k
  · rename_i b hb
    obtain ⟨T', h1, h2⟩ := isiB_ty hb
    exact ⟨v, .ty t, .type T', .type t, b, rfl, .ty t, ty_rel r x.fh h1, kit_ty h2, k _ F' H' x (.bl b)⟩
  · exact k.elim
end
end DL

/-! The data layer, part 5: statements, calls of defs, defs. -/
namespace DL
open PySem PySem.Spec PyProof.Rows L2

inductive Out where
  | nx (env : DEnv)
  | rt (o : Bool) (d : D)
  | bk (env : DEnv)
  | ct (env : DEnv)
  | xc (c : Value) (env : DEnv)
def mdOf (o : Bool) : Md := if o then .o else .v
def OutOk {hd : Option Value} (K : PySem.W.Frag) (w : World) (B : Bs hd) (W : WX) (D : Ends) : Out → Prop
  | .nx e => ∀ F H σ, EnvOk K w B F H σ e → D.nx σ H
  | .rt o d => ∀ F H v, Ext B.F B.H F H → RM K w B.H F H (mdOf o) v d → D.rt v H
  | .bk e => ∀ F H σ, EnvOk K w B F H σ e → D.bk σ H
  | .ct e => ∀ F H σ, EnvOk K w B F H σ e → D.ct σ H
  | .xc c e => ∀ F H σ, EnvOk K w B F H σ e → W c none σ H
def AnsO (m : Option Out) (p : Out → Prop) : Prop := match m with
  | none => False
  | some o => p o
structure DS (X : Cx) (W : WX) (st : Stmt) (g : DEnv → Option Out) : Prop where
  run : ∃ t : TS, PS X st t ∧ ∀ (B : Bs X.A.handled) (F H : Hp) (σ : L2.St) (env : DEnv) (D : Ends), EnvOk X.K X.w B F H σ env → AnsO (g env) (OutOk X.K X.w B W D) → t D σ H
structure DSs (X : Cx) (W : WX) (st : List Stmt) (g : DEnv → Option Out) : Prop where
  run : ∃ t : TS, PSs X st t ∧ ∀ (B : Bs X.A.handled) (F H : Hp) (σ : L2.St) (env : DEnv) (D : Ends), EnvOk X.K X.w B F H σ env → AnsO (g env) (OutOk X.K X.w B W D) → t D σ H
/-- from an expression's answer to a statement's -/
def eS {α : Type} (m : M α) (env : DEnv) (k : α → Option Out) : Option Out := match m with
  | none => none
  | some (.error c) => some (.xc c env)
  | some (.ok a) => k a
@[simp] theorem eS_ok {α : Type} (a : α) (env : DEnv) (k : α → Option Out) : eS (some (.ok a)) env k = k a := rfl
@[simp] theorem eS_mok {α : Type} (a : α) (env : DEnv) (k : α → Option Out) : eS (mok a) env k = k a := rfl
theorem AnsO.eS {α : Type} {m : M α} {env : DEnv} {k : α → Option Out} {K : PySem.W.Frag} {w : World} {hd : Option Value} {B : Bs hd} {W : WX} {D : Ends} {F H : Hp} {σ : L2.St} (ok : EnvOk K w B F H σ env) (h : AnsO (eS m env k) (OutOk K w B W D)) :
    Ans m (fun a => AnsO (k a) (OutOk K w B W D)) (fun c => ∀ F' H', Ext F H F' H' → W c none σ H') := by
  cases m with
  | none => exact h
  | some r =>
    cases r with
    | error c => exact fun F' H' e => h F' H' σ (ok.mono e)
    | ok a => exact h
theorem AnsO.mono {m : Option Out} {p q : Out → Prop} (h : AnsO m p) (k : ∀ o, m = some o → p o → q o) : AnsO m q := by
  cases m with
  | none => exact h
  | some o => exact k o rfl h

section
variable {X : Cx} {W : WX} {e a b : Expr} {f fa fb : DEnv → M D} {pos : Pos} {st : Stmt} {rest : List Stmt} {g h : DEnv → Option Out}
/-! ### blocks -/
def dNx (env : DEnv) : Option Out := some (.nx env)
def dSeq (g h : DEnv → Option Out) (env : DEnv) : Option Out := match g env with
  | some (.nx e) => h e
  | o => o
theorem dss_nil : DSs X W [] dNx := ⟨_, pss_nil, fun B F H σ env D ok h => h F H σ ok⟩
theorem dss_one (hs : DS X W st g) : DSs X W [st] g := by
  obtain ⟨t, hs, q⟩ := hs
  exact ⟨t, pss_one hs, q⟩
theorem dss_cons (hs : DS X W st g) (hr : DSs X W rest h) : DSs X W (st :: rest) (dSeq g h) := by
  obtain ⟨t, hs, q⟩ := hs
  obtain ⟨u, hr, qr⟩ := hr
  refine ⟨_, pss_cons hs hr, fun B F H σ env D ok k => q B F H σ env _ ok ?_⟩
  unfold dSeq at k
  cases hg : g env with
  | none => rw [hg] at k; exact k
  | some o =>
    rw [hg] at k
    cases o with
    | nx e1 => exact fun F1 H1 σ1 ok1 => qr B F1 H1 σ1 e1 D ok1 k
    | rt o d => exact k
    | bk e1 => exact k
    | ct e1 => exact k
    | xc c e1 => exact k
/-- a slot's own list is frozen from here on -/
def dFrz (i : Nat) (g : DEnv → Option Out) (env : DEnv) : Option Out := g (frzE i env)
theorem dss_frz (i : Nat) (hr : DSs X W rest h) : DSs X W rest (dFrz i h) := by
  obtain ⟨u, hr, qr⟩ := hr
  refine ⟨u, hr, fun B F H σ env D ok k => ?_⟩
  obtain ⟨F', _, ok'⟩ := ok.freeze i
  exact qr B F' H σ _ D ok' k
/-- a slot is forgotten -/
def dDrop (i : Nat) (g : DEnv → Option Out) (env : DEnv) : Option Out := g (env.set i none)
theorem set_self {σ : L2.St} {i : Nat} : ∃ o, σ.set i o = σ := by
  cases q : σ[i]? with
  | none =>
    refine ⟨none, List.set_eq_of_length_le ?_⟩
    exact List.getElem?_eq_none_iff.mp q
  | some o =>
    obtain ⟨h1, h2⟩ := List.getElem?_eq_some_iff.mp q
    refine ⟨o, ?_⟩
    rw [← h2]
    exact List.set_getElem_self h1
theorem dss_drop (i : Nat) (hr : DSs X W rest h) : DSs X W rest (dDrop i h) := by
  obtain ⟨u, hr, qr⟩ := hr
  refine ⟨u, hr, fun B F H σ env D ok k => ?_⟩
  obtain ⟨o, eo⟩ := set_self (σ := σ) (i := i)
  have ok' := ok.drop i o
  rw [eo] at ok'
  exact qr B F H σ _ D ok' k
theorem ds_pass : DS X W (.Pass pos) dNx := ⟨_, ps_pass, fun B F H σ env D ok h => h F H σ ok⟩
theorem ds_doc {x j pos'} : DS X W (.Expr (.Constant (.str x) j pos) pos') dNx := ⟨_, ps_doc, fun B F H σ env D ok h => h F H σ ok⟩
def dBk (env : DEnv) : Option Out := some (.bk env)
def dCt (env : DEnv) : Option Out := some (.ct env)
theorem ds_break : DS X W (.Break pos) dBk := ⟨_, ps_break, fun B F H σ env D ok h => h F H σ ok⟩
theorem ds_continue : DS X W (.Continue pos) dCt := ⟨_, ps_continue, fun B F H σ env D ok h => h F H σ ok⟩
/-- a statement that is not come to -/
def dNever (_ : DEnv) : Option Out := none
theorem ds_never : DS X W st dNever := ⟨_, ps_never, fun B F H σ env D ok h => h.elim⟩
theorem dss_never : DSs X W rest dNever := ⟨_, pss_never, fun B F H σ env D ok h => h.elim⟩
/-! ### expressions as statements, assignments -/
def dExpr (f : DEnv → M D) (env : DEnv) : Option Out := eS (f env) env fun _ => some (.nx env)
theorem ds_expr (he : DE X W .s e f) (hs : swapsWith e none pos.line X.env = pure false := by rfl) : DS X W (.Expr e pos) (dExpr f) := by
  obtain ⟨t, he, q⟩ := he
  exact ⟨_, ps_expr he hs, fun B F H σ env D ok h => q B F H σ env _ ok ((AnsO.eS ok h).mono (fun d k v F' H' x r => k F' H' σ (ok.mono x)) fun c k => k)⟩
def dSet (i : Nat) (f : DEnv → M D) (env : DEnv) : Option Out := eS (f env) env fun d => some (.nx (env.set i (some (.fz d))))
def dSetO (i : Nat) (f : DEnv → M D) (env : DEnv) : Option Out := eS (f env) env fun d => some (.nx (env.set i (some (.ow d))))
theorem setV {i : Nat} {B : Bs X.A.handled} {F H : Hp} {σ : L2.St} {env : DEnv} {D : Ends} (ok : EnvOk X.K X.w B F H σ env) (h : AnsO (dSet i f env) (OutOk X.K X.w B W D)) :
    Ans (f env) (fun d => ∀ v F' H', Ext F H F' H' → RM X.K X.w H F' H' .v v d → D.nx (σ.set i (some v)) H') (fun c => ∀ F' H', Ext F H F' H' → W c none σ H') :=
  (AnsO.eS ok h).mono (fun d k v F' H' x r => k F' H' _ ((ok.mono x).setF r)) fun c k => k
theorem setO {i : Nat} {B : Bs X.A.handled} {F H : Hp} {σ : L2.St} {env : DEnv} {D : Ends} (ok : EnvOk X.K X.w B F H σ env) (h : AnsO (dSetO i f env) (OutOk X.K X.w B W D)) :
    Ans (f env) (fun d => ∀ v F' H', Ext F H F' H' → RM X.K X.w H F' H' .o v d → D.nx (σ.set i (some v)) H') (fun c => ∀ F' H', Ext F H F' H' → W c none σ H') :=
  (AnsO.eS ok h).mono (fun d k v F' H' x r => by
    obtain ⟨ow, a, rfl, h1, h2⟩ := r
    exact k F' H' _ (ok.setO ow x h1 h2)) fun c k => k
theorem ds_set {i : Nat} {x : Str} {pos' : Pos} (hN : X.N.Nodup) (hi : X.N[i]? = some x) (hx : Loc X.env.scope x) (he : DE X W .v e f) (hs : swapsWith e (some (.Name x pos')) pos.line X.env = pure false := by rfl)
    (hf : X.fn x = true ∨ X.env.scope.names.lookup x = some .local := by first | exact .inl rfl | exact .inr rfl | assumption) : DS X W (.Assign [.Name x pos'] e pos) (dSet i f) := by
  obtain ⟨t, he, q⟩ := he
  exact ⟨_, ps_set hN hi hx he hs hf, fun B F H σ env D ok h => q B F H σ env _ ok (setV ok h)⟩
theorem ds_setO {i : Nat} {x : Str} {pos' : Pos} (hN : X.N.Nodup) (hi : X.N[i]? = some x) (hx : Loc X.env.scope x) (he : DE X W .o e f) (hs : swapsWith e (some (.Name x pos')) pos.line X.env = pure false := by rfl)
    (hf : X.fn x = true ∨ X.env.scope.names.lookup x = some .local := by first | exact .inl rfl | exact .inr rfl | assumption) : DS X W (.Assign [.Name x pos'] e pos) (dSetO i f) := by
  obtain ⟨t, he, q⟩ := he
  exact ⟨_, ps_set hN hi hx he hs hf, fun B F H σ env D ok h => q B F H σ env _ ok (setO ok h)⟩
/-- y = x, x's own list handed on -/
def dMove (i j : Nat) (env : DEnv) : Option Out := match env[j]? with
  | some (some s) => some (.nx ((env.set j none).set i (some s)))
  | _ => none
theorem EnvOk.move {K : PySem.W.Frag} {w : World} {hd : Option Value} {B : Bs hd} {F H : Hp} {σ : L2.St} {env : DEnv} (x : EnvOk K w B F H σ env) {i j : Nat} {s : Sl} {v : V} (q : env[j]? = some (some s)) (hv : σ[j]? = some (some v)) :
    EnvOk K w B F H (σ.set i (some v)) ((env.set j none).set i (some s)) := by
  obtain ⟨v', h1, h2⟩ := x.sl j s q
  rw [hv] at h1; cases h1
  have hj : j < env.length := by
    rcases Nat.lt_or_ge j env.length with z | z
    · exact z
    · rw [List.getElem?_eq_none z] at q; cases q
  have key : ∀ (m : Nat) (t : Sl), ((env.set j none).set i (some s))[m]? = some (some t) → (m = i ∧ t = s) ∨ (m ≠ i ∧ m ≠ j ∧ env[m]? = some (some t)) := fun m t r => by
    by_cases hm : i = m
    · subst hm
      by_cases hl : i < (env.set j none).length
      · rw [List.getElem?_set_self hl] at r; cases r; exact .inl ⟨rfl, rfl⟩
      · rw [List.getElem?_eq_none (by simpa using hl)] at r; cases r
    · rw [List.getElem?_set_ne hm] at r
      by_cases hm2 : j = m
      · subst hm2; rw [List.getElem?_set_self hj] at r; cases r
      · rw [List.getElem?_set_ne hm2] at r; exact .inr ⟨fun z => hm z.symm, fun z => hm2 z.symm, r⟩
  have inb : ∀ (m : Nat) (t : Sl), ((env.set j none).set i (some s))[m]? = some (some t) → m < σ.length := fun m t r => by
    rcases Nat.lt_or_ge m σ.length with z | z
    · exact z
    · rw [List.getElem?_eq_none (by simp; rw [x.len]; exact z)] at r; cases r
  refine ⟨x.ext, by simpa using x.len, fun m t r => ?_, fun m n d e a hmn m1 m2 h3 h4 h5 h6 => ?_⟩
  · rcases key m t r with ⟨rfl, rfl⟩ | ⟨h3, h4, h5⟩
    · exact ⟨v, List.getElem?_set_self (inb _ _ r), h2⟩
    · rw [List.getElem?_set_ne (Ne.symm h3)]
      exact x.sl m t h5
  · rcases key m _ h3 with ⟨rfl, e1⟩ | ⟨g1, g2, g3⟩
    · rcases key n _ h4 with ⟨rfl, e2⟩ | ⟨k1, k2, k3⟩
      · exact hmn rfl
      · rw [List.getElem?_set_self (inb _ _ h3)] at h5
        rw [List.getElem?_set_ne (Ne.symm k1)] at h6
        cases h5
        subst e1
        exact x.ap j n _ e a (Ne.symm k2) m1 m2 q k3 hv h6
    · rcases key n _ h4 with ⟨rfl, e2⟩ | ⟨k1, k2, k3⟩
      · rw [List.getElem?_set_self (inb _ _ h4)] at h6
        rw [List.getElem?_set_ne (Ne.symm g1)] at h5
        cases h6
        subst e2
        exact x.ap m j d _ a g2 m1 m2 g3 q h5 hv
      · rw [List.getElem?_set_ne (Ne.symm g1)] at h5
        rw [List.getElem?_set_ne (Ne.symm k1)] at h6
        exact x.ap m n d e a hmn m1 m2 g3 k3 h5 h6
theorem ds_move {i j : Nat} {x y : Str} {pos' p2 : Pos} (hN : X.N.Nodup) (hi : X.N[i]? = some x) (hx : Loc X.env.scope x) (hj : X.N[j]? = some y) (hv : Vis X.env.scope y := by first | exact Or.inl rfl | exact Or.inr (Or.inl rfl) | exact Or.inr (Or.inr rfl))
    (hd : (y == ("__debug__" : Str)) = false := by decide) (hcd : (y == ("__classdict__" : Str)) = false := by decide) (hs : swapsWith (.Name y p2) (some (.Name x pos')) pos.line X.env = pure false := by rfl)
    (hf : X.fn x = true ∨ X.env.scope.names.lookup x = some .local := by first | exact .inl rfl | exact .inr rfl | assumption) : DS X W (.Assign [.Name x pos'] (.Name y p2) pos) (dMove i j) := by
  refine ⟨_, ps_set hN hi hx (pe_var hj hv hd hcd) hs hf, fun B F H σ env D ok h => ?_⟩
  unfold dMove at h
  split at h
  · rename_i s q
    obtain ⟨v, h1, h2⟩ := ok.sl j _ q
    exact ⟨v, h1, h F H _ (ok.move q h1)⟩
  · exact h.elim
/-! ### return, if -/
def dRet (f : DEnv → M D) (env : DEnv) : Option Out := eS (f env) env fun d => some (.rt false d)
def dRetO (f : DEnv → M D) (env : DEnv) : Option Out := eS (f env) env fun d => some (.rt true d)
def dRetN (_ : DEnv) : Option Out := some (.rt false .none)
theorem ds_ret (he : DE X W .v e f) : DS X W (.Return (some e) pos) (dRet f) := by
  obtain ⟨t, he, q⟩ := he
  exact ⟨_, ps_ret he, fun B F H σ env D ok h => q B F H σ env _ ok ((AnsO.eS ok h).mono (fun d k v F' H' x r => k F' H' v (ok.ext.trans x) r) fun c k => k)⟩
theorem ds_retO (he : DE X W .o e f) : DS X W (.Return (some e) pos) (dRetO f) := by
  obtain ⟨t, he, q⟩ := he
  exact ⟨_, ps_ret he, fun B F H σ env D ok h => q B F H σ env _ ok ((AnsO.eS ok h).mono (fun d k v F' H' x r => k F' H' v (ok.ext.trans x) (RM.back ok.ext.hh r)) fun c k => k)⟩
theorem ds_retN : DS X W (.Return none pos) dRetN := ⟨_, ps_retN, fun B F H σ env D ok h => h F H .non ok.ext .non⟩
def dRetVar (i : Nat) (env : DEnv) : Option Out := match env[i]? with
  | some (some (.fz d)) => some (.rt false d)
  | some (some (.ow d)) => some (.rt true d)
  | _ => none
theorem ds_retVar (i : Nat) {x : Str} {p2 : Pos} (hN : X.N[i]? = some x := by rfl) (hv : Vis X.env.scope x := by first | exact Or.inl rfl | exact Or.inr (Or.inl rfl) | exact Or.inr (Or.inr rfl)) (hd : (x == ("__debug__" : Str)) = false := by decide)
    (hcd : (x == ("__classdict__" : Str)) = false := by decide) : DS X W (.Return (some (.Name x p2)) pos) (dRetVar i) := by
  refine ⟨_, ps_ret (pe_var hN hv hd hcd), fun B F H σ env D ok h => ?_⟩
  unfold dRetVar at h
  split at h
  · rename_i d q
    obtain ⟨v, h1, h2⟩ := ok.sl i _ q
    exact ⟨v, h1, h F H v ok.ext h2⟩
  · rename_i d q
    obtain ⟨v, h1, h2⟩ := ok.sl i _ q
    exact ⟨v, h1, h F H v ok.ext h2⟩
  · exact h.elim
def dIfS (p : DEnv → M Bool) (g h : DEnv → Option Out) (env : DEnv) : Option Out := eS (p env) env fun b => if b then g env else h env
theorem ds_if {c : Expr} {p : DEnv → M Bool} {s1 s2 : List Stmt} (hc : DT X W c p) (ha : DSs X W s1 g) (hb : DSs X W s2 h) : DS X W (.If c s1 s2 pos) (dIfS p g h) := by
  obtain ⟨tc, hc, qc⟩ := hc
  obtain ⟨ta, ha, qa⟩ := ha
  obtain ⟨tb, hb, qb⟩ := hb
  refine ⟨_, ps_if hc ha hb, fun B F H σ env D ok k => qc B F H σ env _ ok ((AnsO.eS ok k).mono (fun b k F' H' x => ?_) fun c k => k)⟩
  cases b with
  | true => exact qa B F' H' σ env D (ok.mono x) k
  | false => exact qb B F' H' σ env D (ok.mono x) k

/-! ### a name's own list changed -/
theorem own_list {K : PySem.W.Frag} {w : World} {hd : Option Value} {B : Bs hd} {F H : Hp} {σ : L2.St} {env : DEnv} {i : Nat} {ds : List D} (ok : EnvOk K w B F H σ env) (q : env[i]? = some (some (.ow (.list ds)))) :
    ∃ a vs, σ[i]? = some (some (.ref a)) ∧ H a = some (.lst vs) ∧ RpA K w F vs ds ∧ F a = none := by
  obtain ⟨v, h1, h2, a, rfl, h4, h5⟩ := ok.sl i _ q
  obtain ⟨b, e0, ⟨vs, es, e1, e2, r⟩ | ⟨es, kvs, e1, e2, r⟩⟩ := h2
  · cases e0; cases e1
    exact ⟨a, vs, h1, e2, r, h5⟩
  · cases e1
def dApp (i : Nat) (f : DEnv → M D) (env : DEnv) : Option Out := match env[i]? with
  | some (some (.ow (.list ds))) => eS (f env) env fun d => if ds.length < sizeLine then some (.nx (env.set i (some (.ow (.list (ds ++ [d])))))) else none
  | _ => none
theorem ds_append {i : Nat} {x : Str} {p2 apos cpos : Pos} (ha : DE X W .v a fa) (hi : X.N[i]? = some x := by rfl) (hv : Vis X.env.scope x := by first | exact Or.inl rfl | exact Or.inr (Or.inl rfl) | exact Or.inr (Or.inr rfl))
    (hd : (x == ("__debug__" : Str)) = false := by decide) (hcd : (x == ("__classdict__" : Str)) = false := by decide)
    (hbase : attributeBase (.Name x p2) "append" X.env (eval (.Name x p2) X.env) = eval (.Name x p2) X.env := by rfl)
    (hfew : ((backTo cpos (starEach [a] X.env)).all (fun x => !x.1) && (backToKw cpos (keywordEach [] X.env)).all (fun x => x.1.isSome)
      && decide ([a].length + ([] : List Keyword).length + (if ([] : List Keyword).isEmpty then 0 else 1) < 30)) = true := by rfl)
    (hline : (apos.endLine == cpos.line) = true := by rfl) (hs : starEach [a] X.env = (false, eval a X.env) :: starEach [] X.env := by rfl) (hplain : (backTo cpos (starEach [] X.env)).any (·.1) = false := by rfl)
    (hsw : swapsWith (.Call (.Attribute (.Name x p2) "append" apos) [a] [] cpos) none pos.line X.env = pure false := by rfl) :
    DS X W (.Expr (.Call (.Attribute (.Name x p2) "append" apos) [a] [] cpos) pos) (dApp i fa) := by
  obtain ⟨ta, ha, qa⟩ := ha
  refine ⟨_, ps_expr (pe_bm PySem.F.plainAttrs_list PySem.F.slot_list_append PySem.F.type_list_append mt_append (pe_var hi hv hd hcd) (pa_cons ha pa_nil hs) hbase hfew hline hs hplain) hsw, fun B F H σ env D ok h => ?_⟩
  unfold dApp at h
  split at h
  · rename_i ds q
    obtain ⟨l, vs, h1, h2, h3, h4⟩ := own_list ok q
    refine ⟨.ref l, h1, .inl ⟨rfl, _, .inl (.inl h2)⟩, qa B F H σ env _ ok ((AnsO.eS ok h).mono (fun d k v F' H' x r => ?_) fun c k => k)⟩
    split at k
    · rename_i hz
      refine ⟨l, vs, v, rfl, rfl, x.hh _ _ h2, by rw [h3.length]; exact hz, ?_⟩
      exact k F' _ σ ((ok.mono x).write q h1 ⟨l, rfl, .inl ⟨vs ++ [v], _, rfl, upd_same, (h3.mono x.ff).append (.cons r .nil)⟩⟩)
    · exact k.elim
  · exact h.elim
/-- x[k] = e -/
def dSetIx (i : Nat) (fk fe : DEnv → M D) (env : DEnv) : Option Out := match env[i]? with
  | some (some (.ow (.list ds))) => eS (fe env) env fun d => eS (fk env) env fun k => match k with
    | .int n => match ixN ds.length n with
      | some j => some (.nx (env.set i (some (.ow (.list (ds.set j d))))))
      | none => none
    | _ => none
  | _ => none
theorem ds_setIx {i : Nat} {x : Str} {p2 tpos : Pos} (hk : DE X W .v b fb) (he : DE X W .v a fa) (hi : X.N[i]? = some x := by rfl) (hv : Vis X.env.scope x := by first | exact Or.inl rfl | exact Or.inr (Or.inl rfl) | exact Or.inr (Or.inr rfl))
    (hd : (x == ("__debug__" : Str)) = false := by decide) (hcd : (x == ("__classdict__" : Str)) = false := by decide)
    (ha : ∀ v, assign (.Subscript (.Name x p2) b tpos) X.env v = (do
      let ov ← holding [v] (eval (.Name x p2) X.env)
      let iv ← holding [v, ov] (eval b X.env)
      standAt tpos
      holding [v, ov, iv] (setItem ov iv v)
      release [v, ov, iv] []) := by intro _; rfl)
    (hs : swapsWithSole [.Subscript (.Name x p2) b tpos] a pos.line X.env = pure false := by rfl) (hw : swappedStores [.Subscript (.Name x p2) b tpos] a X.env = pure none := by rfl)
    (h1 : (assignEach [.Subscript (.Name x p2) b tpos] X.env).map (·.2) = [assign (.Subscript (.Name x p2) b tpos) X.env] := by rfl) :
    DS X W (.Assign [.Subscript (.Name x p2) b tpos] a pos) (dSetIx i fb fa) := by
  obtain ⟨ta, he, qa⟩ := he
  obtain ⟨tb, hk, qb⟩ := hk
  refine ⟨_, ps_asg he (pg_sub (pe_var hi hv hd hcd) hk set_list ha) hs hw h1, fun B F H σ env D ok h => ?_⟩
  unfold dSetIx at h
  split at h
  · rename_i ds q
    obtain ⟨l, vs, g1, g2, g3, g4⟩ := own_list ok q
    refine qa B F H σ env _ ok ((AnsO.eS ok h).mono (fun d k v F1 H1 x1 r => ?_) fun c k => k)
    refine ⟨.ref l, g1, qb B F1 H1 σ env _ (ok.mono x1) ((AnsO.eS (ok.mono x1) k).mono (fun dk k u F2 H2 x2 r2 => ?_) fun c k => k)⟩
    have r2 : Rp X.K X.w F2 u dk := r2
    split at k
    · rename_i n
      cases r2
      split at k
      · rename_i j hj
        refine ⟨l, vs, _, j, rfl, rfl, x2.hh _ _ (x1.hh _ _ g2), by rw [g3.length]; exact hj, ?_⟩
        exact k F2 _ σ (((ok.mono x1).mono x2).write q g1 ⟨l, rfl, .inl ⟨vs.set j v, _, rfl, upd_same, RpA.set (Rp.mono x2.ff r) j ((g3.mono x1.ff).mono x2.ff)⟩⟩)
      · exact k.elim
    · exact k.elim
  · exact h.elim
/-- x += e, numbers and texts -/
def dAug (i : Nat) (g : D → D → M D) (f : DEnv → M D) (env : DEnv) : Option Out := match env[i]? with
  | some (some (.fz x)) => eS (mbind (f env) fun y => g x y) env fun d => some (.nx (env.set i (some (.fz d))))
  | _ => none
theorem ds_aug {i : Nat} {x : Str} {op : Operator} {g : D → D → M D} {pos' : Pos} (ho : OpR X (inplaceOp op) (rD X .v g)) (hg : ∀ x y c, g x y ≠ some (.error c)) (hN : X.N.Nodup) (hi : X.N[i]? = some x) (hx : Loc X.env.scope x) (he : DE X W .s e f)
    (hf : X.fn x = true ∨ X.env.scope.names.lookup x = some .local := by first | exact .inl rfl | exact .inr rfl | assumption) : DS X W (.AugAssign (.Name x pos') op e pos) (dAug i g f) := by
  obtain ⟨t, he, q⟩ := he
  refine ⟨_, ps_aug hN hi hx he ho hf, fun B F H σ env D ok h => ?_⟩
  unfold dAug at h
  split at h
  · rename_i d qd
    obtain ⟨v, h1, h2⟩ := ok.sl i _ qd
    refine ⟨v, h1, q B F H σ env _ ok ((AnsO.eS ok h).bind.mono (fun d2 k u F1 H1 x1 r => ?_) fun c k => k)⟩
    refine ⟨F1, d, d2, x1.fh, .inl (Rp.mono x1.ff h2), r, k.monoE (fun z _ k w F2 H2 x2 r2 => ?_) fun c z _ => hg _ _ _ z⟩
    exact k F2 H2 _ (((ok.mono x1).mono x2).setF r2)
  · exact h.elim
/-- x += e, x's own list -/
def dAugL (i : Nat) (f : DEnv → M D) (env : DEnv) : Option Out := match env[i]? with
  | some (some (.ow (.list ds))) => eS (f env) env fun d => match d with
    | .list es => if ds.length + es.length ≤ sizeLine then some (.nx (env.set i (some (.ow (.list (ds ++ es)))))) else none
    | _ => none
  | _ => none
theorem ds_augL {i : Nat} {x : Str} {pos' : Pos} (hN : X.N.Nodup) (hi : X.N[i]? = some x) (hx : Loc X.env.scope x) (he : DE X W .o e f)
    (hf : X.fn x = true ∨ X.env.scope.names.lookup x = some .local := by first | exact .inl rfl | exact .inr rfl | assumption) : DS X W (.AugAssign (.Name x pos') .Add e pos) (dAugL i f) := by
  obtain ⟨t, he, q⟩ := he
  refine ⟨_, ps_aug hN hi hx he iop_ext hf, fun B F H σ env D ok h => ?_⟩
  unfold dAugL at h
  split at h
  · rename_i ds qd
    obtain ⟨l, vs, g1, g2, g3, g4⟩ := own_list ok qd
    refine ⟨.ref l, g1, q B F H σ env _ ok ((AnsO.eS ok h).mono (fun d k u F1 H1 x1 r => ?_) fun c k => k)⟩
    split at k
    · rename_i es
      split at k
      · rename_i hz
        obtain ⟨⟨b, rfl, ⟨us, es', e1, e2, e3⟩ | ⟨_, _, e1, _⟩⟩, _⟩ := r
        · cases e1
          refine ⟨l, b, vs, us, rfl, rfl, x1.hh _ _ g2, e2, by rw [g3.length, e3.length]; exact hz, ?_⟩
          have ok2 := (ok.mono x1).write (d' := .list (ds ++ es)) (o := .lst (vs ++ us)) qd g1 ⟨l, rfl, .inl ⟨vs ++ us, _, rfl, upd_same, (g3.mono x1.ff).append e3⟩⟩
          have hl : i < σ.length := by
            rcases Nat.lt_or_ge i σ.length with z | z
            · exact z
            · rw [List.getElem?_eq_none z] at g1; cases g1
          have es : σ.set i (some (V.ref l)) = σ := by
            obtain ⟨p1, p2⟩ := List.getElem?_eq_some_iff.mp g1
            rw [← p2]
            exact List.set_getElem_self p1
          show D.nx (List.set σ i (some (V.ref l))) (upd H1 l (HO.lst (vs ++ us)))
          rw [es]
          exact k F1 _ σ ok2
        · cases e1
      · exact k.elim
    · exact k.elim
  · exact h.elim
end
end DL

/-! The data layer, part 6: targets, what is walked, for, while, comprehensions, calls of defs, defs. -/
namespace DL
open PySem PySem.Spec PyProof.Rows L2

/-! ### targets -/
/-- the slots sl alone may differ -/
def SameOut (sl : List Nat) (σ σ' : L2.St) : Prop := ∀ vs : List Nat, (∀ i ∈ sl, i ∈ vs) → wipe σ' vs = wipe σ vs
structure DG (X : Cx) (tg : Expr) (sl : List Nat) (f : D → DEnv → Option DEnv) : Prop where
  run : ∃ t : TG, PG X tg t ∧ ∀ (B : Bs X.A.handled) (F H : Hp) (σ : L2.St) (env env' : DEnv) (v : V) (d : D) (Q : L2.St → Hp → Prop), EnvOk X.K X.w B F H σ env → Rp X.K X.w F v d → f d env = some env' →
    (∀ σ', EnvOk X.K X.w B F H σ' env' → SameOut sl σ σ' → Q σ' H) → t v σ H Q
structure DGs (X : Cx) (ts : List Expr) (sl : List Nat) (f : List D → DEnv → Option DEnv) : Prop where
  run : ∃ t : TGs, PGs X ts t ∧ ∀ (B : Bs X.A.handled) (F H : Hp) (σ : L2.St) (env env' : DEnv) (vs : List V) (ds : List D) (Q : L2.St → Hp → Prop), EnvOk X.K X.w B F H σ env → RpA X.K X.w F vs ds → f ds env = some env' →
    (∀ σ', EnvOk X.K X.w B F H σ' env' → SameOut sl σ σ' → Q σ' H) → t vs σ H Q
theorem wipe_set (σ : L2.St) (i : Nat) (o : Option V) : ∀ vs : List Nat, i ∈ vs → wipe (σ.set i o) vs = wipe σ vs := by
  have key : ∀ vs : List Nat, (i ∈ vs → wipe (σ.set i o) vs = wipe σ vs) ∧ (i ∉ vs → wipe (σ.set i o) vs = (wipe σ vs).set i o) := by
    intro vs
    induction vs with
    | nil => exact ⟨fun h => (by cases h), fun _ => rfl⟩
    | cons v vs ih =>
      refine ⟨fun h => ?_, fun h => ?_⟩
      · unfold wipe
        by_cases hv : i ∈ vs
        · rw [ih.1 hv]
        · have e : i = v := by
            rcases List.mem_cons.mp h with z | z
            · exact z
            · exact absurd z hv
          subst e
          rw [ih.2 hv, List.set_set]
      · unfold wipe
        rw [List.mem_cons, not_or] at h
        rw [ih.2 h.2, List.set_comm _ _ h.1]
  exact fun vs h => (key vs).1 h
def gN (i : Nat) (d : D) (env : DEnv) : Option DEnv := some (env.set i (some (.fz d)))
def gNil' (ds : List D) (env : DEnv) : Option DEnv := match ds with
  | [] => some env
  | _ => none
def gCons' (f : D → DEnv → Option DEnv) (g : List D → DEnv → Option DEnv) (ds : List D) (env : DEnv) : Option DEnv := match ds with
  | d :: r => (f d env).bind fun e => g r e
  | [] => none
def gT (n : Nat) (g : List D → DEnv → Option DEnv) (d : D) (env : DEnv) : Option DEnv := match d with
  | .tuple ds => if ds.length = n then g ds env else none
  | _ => none
section
variable {X : Cx} {W : WX} {e a b : Expr} {f fa fb : DEnv → M D} {pos : Pos} {st : Stmt} {rest : List Stmt} {g h : DEnv → Option Out}
theorem dg_name {i : Nat} {x : Str} (hN : X.N.Nodup) (hi : X.N[i]? = some x) (hx : Loc X.env.scope x) (hf : X.fn x = true ∨ X.env.scope.names.lookup x = some .local := by first | exact .inl rfl | exact .inr rfl | assumption) : DG X (.Name x pos) [i] (gN i) := by
  refine ⟨_, pg_name hN hi hx hf, fun B F H σ env env' v d Q ok r e q => ?_⟩
  cases e
  exact q _ (ok.setF r) fun vs h => wipe_set _ _ _ vs (h i List.mem_cons_self)
theorem dgs_nil : DGs X [] [] gNil' := by
  refine ⟨_, pgs_nil, fun B F H σ env env' vs ds Q ok r e q => ?_⟩
  cases r with
  | nil => cases e; exact ⟨rfl, q _ ok fun _ _ => rfl⟩
  | cons _ _ => cases e
theorem dgs_cons {t1 : Expr} {ts : List Expr} {s1 s2 : List Nat} {p : D → DEnv → Option DEnv} {q : List D → DEnv → Option DEnv} (h1 : DG X t1 s1 p) (h2 : DGs X ts s2 q)
    (hs : (assignEach (t1 :: ts) X.env).map (·.2) = assign t1 X.env :: (assignEach ts X.env).map (·.2) := by rfl) : DGs X (t1 :: ts) (s1 ++ s2) (gCons' p q) := by
  obtain ⟨t, h1, q1⟩ := h1
  obtain ⟨u, h2, q2⟩ := h2
  refine ⟨_, pgs_cons h1 h2 hs, fun B F H σ env env' vs ds Q ok r e k => ?_⟩
  cases r with
  | nil => cases e
  | cons r rs =>
    obtain ⟨e1, g1, g2⟩ := Option.bind_eq_some_iff.mp e
    exact ⟨_, _, rfl, q1 B F H σ env e1 _ _ _ ok r g1 fun σ1 ok1 so1 => q2 B F H σ1 e1 env' _ _ Q ok1 rs g2 fun σ2 ok2 so2 => k σ2 ok2 fun vs hv => (so2 vs fun i hi => hv i (List.mem_append_right _ hi)).trans (so1 vs fun i hi => hv i (List.mem_append_left _ hi))⟩
theorem dg_tup {ts : List Expr} {sl : List Nat} {k n : Nat} {q : List D → DEnv → Option DEnv} (hc : X.calm = true) (h : DGs X ts sl q) (hn : (assignEach ts X.env).length = n := by rfl) (hst : (assignEach ts X.env).findIdx? (·.1) = none := by rfl) : DG X (.Tuple ts k pos) sl (gT n q) := by
  obtain ⟨t, h, qq⟩ := h
  refine ⟨_, pg_tup hc h hn hst, fun B F H σ env env' v d Q ok r e k => ?_⟩
  unfold gT at e
  split at e
  · split at e
    · rename_i hl
      cases r with
      | tup hs ra hn =>
        exact ⟨_, _, rfl, sqT_mono ok.fh hs, by rw [ra.length]; exact hl, qq B F H σ env env' _ _ Q ok ra e k⟩
    · cases e
  · cases e
/-- targets = e -/
def dAsg (p : D → DEnv → Option DEnv) (f : DEnv → M D) (env : DEnv) : Option Out := eS (f env) env fun d => match p d env with
  | some e => some (.nx e)
  | none => none
theorem ds_asg {tg : Expr} {sl : List Nat} {p : D → DEnv → Option DEnv} (hg : DG X tg sl p) (he : DE X W .v e f) (hs : swapsWithSole [tg] e pos.line X.env = pure false := by rfl) (hw : swappedStores [tg] e X.env = pure none := by rfl)
    (h1 : (assignEach [tg] X.env).map (·.2) = [assign tg X.env] := by rfl) : DS X W (.Assign [tg] e pos) (dAsg p f) := by
  obtain ⟨t, he, q⟩ := he
  obtain ⟨u, hg, qg⟩ := hg
  refine ⟨_, ps_asg he hg hs hw h1, fun B F H σ env D ok h => q B F H σ env _ ok ((AnsO.eS ok h).mono (fun d k v F' H' x r => ?_) fun c k => k)⟩
  split at k
  · rename_i e1 he1
    exact qg B F' H' σ env e1 v d _ (ok.mono x) r he1 fun σ' ok' _ => k F' H' σ' ok'
  · exact k.elim

/-! ### what is walked: the iterable is frozen -/
def ItOk (K : PySem.W.Frag) (w : World) (J : It) (F : Hp) (ds : List D) : Prop :=
  (∀ F2 H2 i d, Same F F2 → Same F2 H2 → ds[i]? = some d → J.go i H2 ∧ ∀ x H3, J.yld i H2 x H3 → ∃ F3, Ext F2 H2 F3 H3 ∧ Rp K w F3 x d) ∧ ∀ F2 H2, Same F F2 → Same F2 H2 → J.stop ds.length H2
structure DI (X : Cx) (W : WX) (tg iter : Expr) (f : DEnv → M (List D)) : Prop where
  run : ∃ wi : TI, PI X tg iter wi ∧ ∀ (B : Bs X.A.handled) (F H : Hp) (σ : L2.St) (env : DEnv) (R : It → Hp → Prop), EnvOk X.K X.w B F H σ env →
    Ans (f env) (fun ds => ∀ J F' H', Ext F H F' H' → ItOk X.K X.w J F' ds → R J H') (fun c => ∀ F' H', Ext F H F' H' → W c none σ H') → wi σ H R
def asSeq : D → M (List D)
  | .list ds => mok ds
  | _ => none
def asTup : D → M (List D)
  | .tuple ds => mok ds
  | _ => none
def dIt (s : D → M (List D)) (f : DEnv → M D) (env : DEnv) : M (List D) := mbind (f env) s
theorem di_list {tg : Expr} (he : DE X W .v e f) : DI X W tg e (dIt asSeq f) := by
  obtain ⟨t, he, q⟩ := he
  refine ⟨_, pi_list he, fun B F H σ env R ok h => q B F H σ env _ ok (h.bind.mono (fun d k v F' H' x r => ?_) fun c k => k)⟩
  have r : Rp X.K X.w F' v d := r
  cases r with
  | lst hs ra =>
    refine ⟨_, rfl, ⟨_, x.fh.seq hs⟩, k _ F' H' x ⟨fun F2 H2 i d1 s1 s2 hd => ?_, fun F2 H2 s1 s2 => ?_⟩⟩
    · have hq := (s1.trans s2).seq hs
      obtain ⟨u, h1, h2⟩ := ra.get hd
      refine ⟨⟨_, u, hq, h1⟩, fun x1 H3 y => ?_⟩
      obtain ⟨rfl, y⟩ := y
      have e2 := (y _ hq).symm.trans h1
      cases e2
      exact ⟨F2, .refl s2, h2.mono s1⟩
    · exact ⟨_, (s1.trans s2).seq hs, by rw [ra.length]; exact Nat.le_refl _⟩
  | _ => exact k.elim
theorem di_tup {tg : Expr} (he : DE X W .v e f) : DI X W tg e (dIt asTup f) := by
  obtain ⟨t, he, q⟩ := he
  refine ⟨_, pi_tup he, fun B F H σ env R ok h => q B F H σ env _ ok (h.bind.mono (fun d k v F' H' x r => ?_) fun c k => k)⟩
  have r : Rp X.K X.w F' v d := r
  cases r with
  | tup hs ra hn =>
    refine ⟨_, rfl, ⟨_, sqT_mono x.fh hs⟩, k _ F' H' x ⟨fun F2 H2 i d1 s1 s2 hd => ?_, fun F2 H2 s1 s2 => ?_⟩⟩
    · have hq := sqT_mono (s1.trans s2) hs
      obtain ⟨u, h1, h2⟩ := ra.get hd
      refine ⟨⟨_, u, hq, h1⟩, fun x1 H3 y => ?_⟩
      obtain ⟨rfl, y⟩ := y
      have e2 := (y _ hq).symm.trans h1
      cases e2
      exact ⟨F2, .refl s2, h2.mono s1⟩
    · exact ⟨_, sqT_mono (s1.trans s2) hs, by rw [ra.length]; exact Nat.le_refl _⟩
  | _ => exact k.elim
/-- range -/
def rngL (lo hi : Int) : List D := (List.range (hi - lo).toNat).map fun (i : Nat) => PyData.int (lo + (i : Int))
theorem rng_ok {K : PySem.W.Frag} {w : World} {F : Hp} {lo hi : Int} : ItOk K w (Itr lo (hi - lo).toNat) F (rngL lo hi) := by
  refine ⟨fun F2 H2 i d s1 s2 hd => ?_, fun F2 H2 s1 s2 => ?_⟩
  · unfold rngL at hd
    rw [List.getElem?_map] at hd
    cases q : (List.range (hi - lo).toNat)[i]? with
    | none => rw [q] at hd; cases hd
    | some j =>
      rw [q] at hd
      obtain ⟨h1, h2⟩ := List.getElem?_eq_some_iff.mp q
      rw [List.getElem_range] at h2
      subst h2
      cases hd
      refine ⟨show i < (hi - lo).toNat from (by simpa using h1), fun x H3 y => ?_⟩
      obtain ⟨rfl, rfl⟩ := y
      exact ⟨F2, .refl s2, .int _⟩
  · show (hi - lo).toNat ≤ (rngL lo hi).length
    simp [rngL]
def rngD : List D → M (List D)
  | [.int j] => if j.natAbs < 4611686018427387904 then mok (rngL 0 j) else none
  | [.int i, .int j] => if i.natAbs < 4611686018427387904 ∧ j.natAbs < 4611686018427387904 then mok (rngL i j) else none
  | _ => none
def dItA (s : List D → M (List D)) (f : DEnv → M (List D)) (env : DEnv) : M (List D) := mbind (f env) s
theorem di_range1 {tg : Expr} {p : Pos} {fs : DEnv → M (List D)} (hg : Gl X "range") (hm : X.mg "range" = none) (ha : DA X W .v [a] fs) (hs : starEach [a] X.env = [(false, eval a X.env)] := by rfl) : DI X W tg (.Call (.Name "range" p) [a] [] pos) (dItA rngD fs) := by
  obtain ⟨len, t, ha, q⟩ := ha
  refine ⟨_, pi_range1 hg hm ha hs, fun B F H σ env R ok h => q B F H σ env _ ok (h.bind.monoE (fun ds he k vs F' H' x r => ?_) fun c _ k => k)⟩
  have r : RpA X.K X.w F' vs ds := r
  have hl := len env ds he
  unfold rngD at k
  split at k
  · split at k
    · rename_i hz
      cases r with
      | cons r1 r2 =>
        cases r1; cases r2
        rename_i j
        refine ⟨j, rfl, by omega, by omega, k _ F' H' x ?_⟩
        have := rng_ok (K := X.K) (w := X.w) (F := F') (lo := 0) (hi := j)
        rw [Int.sub_zero] at this
        exact this
    · exact k.elim
  · simp at hl
  · exact k.elim
theorem di_range2 {tg : Expr} {p : Pos} {fs : DEnv → M (List D)} (hg : Gl X "range") (hm : X.mg "range" = none) (ha : DA X W .v [a, b] fs) (hs : starEach [a, b] X.env = [(false, eval a X.env), (false, eval b X.env)] := by rfl) (hs2 : starEach [b] X.env = [(false, eval b X.env)] := by rfl) :
    DI X W tg (.Call (.Name "range" p) [a, b] [] pos) (dItA rngD fs) := by
  obtain ⟨len, t, ha, q⟩ := ha
  refine ⟨_, pi_range2 hg hm ha hs hs2, fun B F H σ env R ok h => q B F H σ env _ ok (h.bind.monoE (fun ds he k vs F' H' x r => ?_) fun c _ k => k)⟩
  have r : RpA X.K X.w F' vs ds := r
  have hl := len env ds he
  unfold rngD at k
  split at k
  · simp at hl
  · split at k
    · rename_i hz
      cases r with
      | cons r1 r2 =>
        cases r2 with
        | cons r2 r3 =>
          cases r1; cases r2; cases r3
          exact ⟨_, _, rfl, ⟨by omega, by omega, by omega, by omega⟩, k _ F' H' x rng_ok⟩
    · exact k.elim
  · exact k.elim
/-- zip of two lists, of two tuples -/
def zipL (xs ys : List D) : List D := List.zipWith (fun x y => PyData.tuple [x, y]) xs ys
/-- no pair handed out is alike a form -/
def plainP (ds : List D) : Bool := ds.all fun d => match d with
  | .tuple xs => !fmk xs
  | _ => true
def zipD : List D → M (List D)
  | [.list xs, .list ys] => if plainP (zipL xs ys) = true then mok (zipL xs ys) else none
  | [.tuple xs, .tuple ys] => if plainP (zipL xs ys) = true then mok (zipL xs ys) else none
  | _ => none
theorem fmk_int2 (d : D) (i : Int) : fmk [d, .int i] = false := by
  unfold fmk
  split
  · simp [fmk, prt]
  · rfl
theorem plainP_at {ds : List D} (h : plainP ds = true) {i : Nat} {xs : List D} (e : ds[i]? = some (.tuple xs)) : fmk xs = false := by
  have := List.all_eq_true.mp h _ (List.mem_of_getElem? e)
  simpa using this
theorem zip_get {xs ys : List D} {i : Nat} {d : D} (h : (zipL xs ys)[i]? = some d) : ∃ x y, xs[i]? = some x ∧ ys[i]? = some y ∧ d = .tuple [x, y] := by
  unfold zipL at h
  rw [List.getElem?_zipWith] at h
  cases q : xs[i]? with
  | none => rw [q] at h; simp at h
  | some x =>
    cases q2 : ys[i]? with
    | none => rw [q, q2] at h; simp at h
    | some y =>
      rw [q, q2] at h
      simp at h
      exact ⟨x, y, rfl, rfl, h.symm⟩
theorem zip_len (xs ys : List D) : (zipL xs ys).length = min xs.length ys.length := by simp [zipL]
theorem di_zip {elts : List Expr} {kk : Nat} {tpos p : Pos} {fs : DEnv → M (List D)} (hg : Gl X "zip") (hm : X.mg "zip" = none) (ha : DA X W .v [a, b] fs)
    (hs : starEach [a, b] X.env = (false, eval a X.env) :: starEach [b] X.env := by rfl) (hpl : (backTo pos (starEach [b] X.env)).any (·.1) = false := by rfl) :
    DI X W (.Tuple elts kk tpos) (.Call (.Name "zip" p) [a, b] [] pos) (dItA zipD fs) := by
  obtain ⟨len, t, ha, q⟩ := ha
  refine ⟨_, RZ.pi_zipA hg hm ha hs hpl, fun B F H σ env R ok h => q B F H σ env _ ok (h.bind.mono (fun ds k vs F' H' x r => ?_) fun c k => k)⟩
  have r : RpA X.K X.w F' vs ds := r
  have new : ∀ {F2 H2 : Hp} {T : Addr} {v1 v2 : V} {d1 d2 : D}, Same F2 H2 → H2 T = none → fmk [d1, d2] = false → Rp X.K X.w F2 v1 d1 → Rp X.K X.w F2 v2 d2 → ∃ F3, Ext F2 H2 F3 (upd H2 T (.tup [v1, v2])) ∧ Rp X.K X.w F3 (.ref T) (.tuple [d1, d2]) := fun {F2 H2 T v1 v2 d1 d2} s2 hT hf p1 p2 => by
    have x := Ext.newF (o := .tup [v1, v2]) s2 hT
    exact ⟨_, x, .tup (.inl (.inl upd_same)) (.cons (p1.mono x.ff) (.cons (p2.mono x.ff) .nil)) fun z => by rw [hf] at z; cases z⟩
  unfold zipD at k
  split at k
  · split at k
    rotate_left
    · exact k.elim
    rename_i hpl
    cases r with
    | cons r1 r2 =>
      cases r2 with
      | cons r2 r3 =>
        cases r3
        cases r1 with
        | lst h1 a1 =>
          cases r2 with
          | lst h2 a2 =>
            refine ⟨_, _, _, _, rfl, .inl ⟨x.fh.seq h1, x.fh.seq h2, k _ F' H' x ⟨fun F2 H2 i d s1 s2 hd => ?_, fun F2 H2 s1 s2 => ?_⟩⟩⟩
            · obtain ⟨z1, z2, e1, e2, rfl⟩ := zip_get hd
              have hff := plainP_at hpl hd
              obtain ⟨u1, g1, p1⟩ := a1.get e1
              obtain ⟨u2, g2, p2⟩ := a2.get e2
              have q1 := (s1.trans s2).seq h1
              have q2 := (s1.trans s2).seq h2
              refine ⟨⟨_, _, u1, u2, q1, q2, g1, g2⟩, fun x1 H3 y => ?_⟩
              obtain ⟨T, w1, w2, rfl, hT, rfl, y1, y2⟩ := y
              have e3 := (y1 _ q1).symm.trans g1
              have e4 := (y2 _ q2).symm.trans g2
              cases e3; cases e4
              exact new s2 hT hff (p1.mono s1) (p2.mono s1)
            · refine ⟨_, _, (s1.trans s2).seq h1, (s1.trans s2).seq h2, ?_⟩
              rw [zip_len, a1.length, a2.length]
              omega
  · split at k
    rotate_left
    · exact k.elim
    rename_i hpl
    cases r with
    | cons r1 r2 =>
      cases r2 with
      | cons r2 r3 =>
        cases r3
        cases r1 with
        | tup h1 a1 _ =>
          cases r2 with
          | tup h2 a2 _ =>
            refine ⟨_, _, _, _, rfl, .inr ⟨sqT_mono x.fh h1, sqT_mono x.fh h2, k _ F' H' x ⟨fun F2 H2 i d s1 s2 hd => ?_, fun F2 H2 s1 s2 => ?_⟩⟩⟩
            · obtain ⟨z1, z2, e1, e2, rfl⟩ := zip_get hd
              have hff := plainP_at hpl hd
              obtain ⟨u1, g1, p1⟩ := a1.get e1
              obtain ⟨u2, g2, p2⟩ := a2.get e2
              have q1 := sqT_mono (s1.trans s2) h1
              have q2 := sqT_mono (s1.trans s2) h2
              refine ⟨⟨_, _, u1, u2, q1, q2, g1, g2⟩, fun x1 H3 y => ?_⟩
              obtain ⟨T, w1, w2, rfl, hT, rfl, y1, y2⟩ := y
              have e3 := (y1 _ q1).symm.trans g1
              have e4 := (y2 _ q2).symm.trans g2
              cases e3; cases e4
              exact new s2 hT hff (p1.mono s1) (p2.mono s1)
            · refine ⟨_, _, sqT_mono (s1.trans s2) h1, sqT_mono (s1.trans s2) h2, ?_⟩
              rw [zip_len, a1.length, a2.length]
              omega
  · exact k.elim
/-- enumerate of a list -/
def enumL (xs : List D) : List D := (xs.zipIdx).map fun p => PyData.tuple [.int (p.2 : Nat), p.1]
def enumD : List D → M (List D)
  | [.list xs] => mok (enumL xs)
  | _ => none
theorem enum_get {xs : List D} {i : Nat} {d : D} (h : (enumL xs)[i]? = some d) : ∃ x, xs[i]? = some x ∧ d = .tuple [.int (i : Nat), x] := by
  unfold enumL at h
  rw [List.getElem?_map, List.getElem?_zipIdx] at h
  cases q : xs[i]? with
  | none => rw [q] at h; simp at h
  | some x =>
    rw [q] at h
    simp at h
    exact ⟨x, rfl, h.symm⟩
theorem enum_len (xs : List D) : (enumL xs).length = xs.length := by simp [enumL]
theorem di_enum {elts : List Expr} {kk : Nat} {tpos p : Pos} {fs : DEnv → M (List D)} (hg : Gl X "enumerate") (hm : X.mg "enumerate" = none) (ha : DA X W .v [a] fs) (hs : starEach [a] X.env = [(false, eval a X.env)] := by rfl) :
    DI X W (.Tuple elts kk tpos) (.Call (.Name "enumerate" p) [a] [] pos) (dItA enumD fs) := by
  obtain ⟨len, t, ha, q⟩ := ha
  refine ⟨_, pi_enum hg hm ha hs, fun B F H σ env R ok h => q B F H σ env _ ok (h.bind.mono (fun ds k vs F' H' x r => ?_) fun c k => k)⟩
  have r : RpA X.K X.w F' vs ds := r
  unfold enumD at k
  split at k
  · cases r with
    | cons r1 r2 =>
      cases r2
      cases r1 with
      | lst h1 a1 =>
        refine ⟨_, _, rfl, x.fh.seq h1, k _ F' H' x ⟨fun F2 H2 i d s1 s2 hd => ?_, fun F2 H2 s1 s2 => ?_⟩⟩
        · obtain ⟨z1, e1, rfl⟩ := enum_get hd
          obtain ⟨u1, g1, p1⟩ := a1.get e1
          have q1 := (s1.trans s2).seq h1
          refine ⟨⟨_, u1, q1, g1⟩, fun x1 H3 y => ?_⟩
          obtain ⟨T, w1, rfl, hT, rfl, y1⟩ := y
          have e3 := (y1 _ q1).symm.trans g1
          cases e3
          have x := Ext.newF (o := .tup [.int (i : Nat), u1]) s2 hT
          exact ⟨_, x, .tup (.inl (.inl upd_same)) (.cons (.int _) (.cons ((p1.mono s1).mono x.ff) .nil)) fun z => by cases z⟩
        · exact ⟨_, (s1.trans s2).seq h1, by rw [enum_len, a1.length]; exact Nat.le_refl _⟩
  · exact k.elim

/-- a base that holds more -/
def Bs.plus {hd : Option Value} (B : Bs hd) (F : Hp) : Bs hd := ⟨F, fun a => match B.H a with
  | some o => some o
  | none => F a, B.pin⟩
theorem Bs.plus_none {hd : Option Value} {B : Bs hd} {F : Hp} {a : Addr} (h : (B.plus F).H a = none) : B.H a = none ∧ F a = none := by
  have h : (match B.H a with | some o => some o | none => F a) = none := h
  cases q : B.H a with
  | none => rw [q] at h; exact ⟨rfl, h⟩
  | some o => rw [q] at h; cases h
theorem Bs.plus_of {hd : Option Value} {B : Bs hd} {F : Hp} {a : Addr} (h1 : B.H a = none) (h2 : F a = none) : (B.plus F).H a = none := by
  show (match B.H a with | some o => some o | none => F a) = none
  rw [h1]
  exact h2
theorem Ext.up {hd : Option Value} {B : Bs hd} {F F1 H1 : Hp} (x : Ext B.F B.H F1 H1) (sb : Same B.F F) (s : Same F F1) : Ext (B.plus F).F (B.plus F).H F1 H1 := by
  refine ⟨s, fun a o h => ?_, x.fh, fun a o h => ?_⟩
  · have h : (match B.H a with | some o => some o | none => F a) = some o := h
    cases q : B.H a with
    | none => rw [q] at h; exact x.fh a o (s a o h)
    | some o' => rw [q] at h; cases h; exact x.hh a _ q
  · cases q : F a with
    | some o' =>
      have e := s a o' q
      rw [h] at e; cases e
      exact .inl q
    | none =>
      rcases x.nw a o h with z | z | z
      · rw [sb a o z] at q; cases q
      · exact .inr (.inl (Bs.plus_of z q))
      · exact .inr (.inr z)
theorem Ext.down {hd : Option Value} {B : Bs hd} {F F1 H1 Hx : Hp} (b : Ext B.F B.H F Hx) (x : Ext (B.plus F).F (B.plus F).H F1 H1) : Ext B.F B.H F1 H1 := by
  refine ⟨b.ff.trans x.ff, fun a o h => x.hh a o ?_, x.fh, fun a o h => ?_⟩
  · show (match B.H a with | some o => some o | none => F a) = some o
    rw [h]
  · rcases x.nw a o h with z | z | z
    · exact b.nw a o z
    · exact .inr (.inl (Bs.plus_none z).1)
    · exact .inr (.inr z)
theorem EnvOk.up {K : PySem.W.Frag} {w : World} {hd : Option Value} {B : Bs hd} {F F1 H1 : Hp} {σ : L2.St} {env : DEnv} (x : EnvOk K w B F1 H1 σ env) (sb : Same B.F F) (s : Same F F1) : EnvOk K w (B.plus F) F1 H1 σ env := by
  refine ⟨x.ext.up sb s, x.len, fun i t q => ?_, x.ap⟩
  obtain ⟨v, h1, h2⟩ := x.sl i t q
  refine ⟨v, h1, ?_⟩
  cases t with
  | xp => exact h2
  | fz d => exact h2
  | ow d =>
    obtain ⟨h3, a, h4, h5, h6⟩ := h2
    exact ⟨h3, a, h4, Bs.plus_of h5 (s.free h6), h6⟩
  | pn d =>
    obtain ⟨h3, a, h4, h5, h6, h7⟩ := h2
    exact ⟨h3, a, h4, Bs.plus_of h5 (s.free h6), h6, h7⟩
theorem EnvOk.down {K : PySem.W.Frag} {w : World} {hd : Option Value} {B : Bs hd} {F F1 H1 Hx : Hp} {σ : L2.St} {env : DEnv} (b : Ext B.F B.H F Hx) (x : EnvOk K w (B.plus F) F1 H1 σ env) : EnvOk K w B F1 H1 σ env := by
  refine ⟨b.down x.ext, x.len, fun i t q => ?_, x.ap⟩
  obtain ⟨v, h1, h2⟩ := x.sl i t q
  refine ⟨v, h1, ?_⟩
  cases t with
  | xp => exact h2
  | fz d => exact h2
  | ow d =>
    obtain ⟨h3, a, h4, h5, h6⟩ := h2
    exact ⟨h3, a, h4, (Bs.plus_none h5).1, h6⟩
  | pn d =>
    obtain ⟨h3, a, h4, h5, h6, h7⟩ := h2
    exact ⟨h3, a, h4, (Bs.plus_none h5).1, h6, h7⟩
theorem RM.down {K : PySem.W.Frag} {w : World} {hd : Option Value} {B : Bs hd} {F F1 H1 : Hp} {md : Md} {v : V} {d : D} (r : RM K w (B.plus F).H F1 H1 md v d) : RM K w B.H F1 H1 md v d := by
  cases md with
  | v => exact r
  | s => exact r
  | o =>
    obtain ⟨r, a, e, h1, h2⟩ := r
    exact ⟨r, a, e, (Bs.plus_none h1).1, h2⟩
/-! ### for -/
def forD (p : D → DEnv → Option DEnv) (g : DEnv → Option Out) : List D → DEnv → Option Out
  | [], env => some (.nx env)
  | d :: ds, env => match p d env with
    | none => none
    | some e => match g e with
      | some (.nx e') => forD p g ds e'
      | some (.ct e') => forD p g ds e'
      | some (.bk e') => some (.nx e')
      | o => o
def dFor (p : D → DEnv → Option DEnv) (s : DEnv → M (List D)) (g : DEnv → Option Out) (env : DEnv) : Option Out := eS (s env) env fun ds => forD p g ds env
theorem ds_for {tg iter : Expr} {body : List Stmt} {p : D → DEnv → Option DEnv} {s : DEnv → M (List D)} {sl : List Nat} (hp : PassesOwn (model X.prog X.w) X.A X.env X.xe) (hc : X.calm = true) (hi : DI X W tg iter s) (hg : DG X tg sl p) (hb : DSs X W body g)
    (hs : ∀ x, foldedSetIterable iter X.env x = pure x := by intro _; rfl) : DS X W (.For tg iter body [] pos) (dFor p s g) := by
  obtain ⟨wi, hi, qi⟩ := hi
  obtain ⟨tg', hg, qg⟩ := hg
  obtain ⟨tb, hb, qb⟩ := hb
  refine ⟨_, ps_for hp hc hi hg hb hs, fun B F H σ env D ok h => qi B F H σ env _ ok ((AnsO.eS ok h).mono (fun ds k J F' H' x it => ?_) fun c k => k)⟩
  have xb : Ext B.F B.H F' H' := ok.ext.trans x
  refine ⟨fun i m σ1 H1 => m = ds.length - i ∧ i ≤ ds.length ∧ ∃ F1 e1, Same F' F1 ∧ EnvOk X.K X.w B F1 H1 σ1 e1 ∧ AnsO (forD p g (ds.drop i) e1) (OutOk X.K X.w B W D), ⟨_, rfl, Nat.zero_le _, F', env, Same.refl _, ok.mono x, k⟩, ?_⟩
  rintro i m σ1 H1 ⟨rfl, hil, F1, e1, sf, ok1, k1⟩
  by_cases hlt : i < ds.length
  · have hd : ds[i]? = some ds[i] := List.getElem?_eq_getElem hlt
    have ed : ds.drop i = ds[i] :: ds.drop (i + 1) := List.drop_eq_getElem_cons hlt
    rw [ed] at k1
    obtain ⟨go, yl⟩ := it.1 F1 H1 i _ sf ok1.fh hd
    refine .inr ⟨go, fun σ2 H2 => ∃ F2 e2, Same F' F2 ∧ EnvOk X.K X.w B F2 H2 σ2 e2 ∧ AnsO (forD p g (ds.drop (i + 1)) e2) (OutOk X.K X.w B W D), fun σ2 H2 ⟨F2, e2, s2, ok2, k2⟩ => ⟨_, by omega, rfl, hlt, F2, e2, s2, ok2, k2⟩, fun v H2 y => ?_⟩
    obtain ⟨F2, x2, r2⟩ := yl v H2 y
    unfold forD at k1
    cases hp1 : p ds[i] e1 with
    | none => rw [hp1] at k1; exact k1.elim
    | some e2 =>
      rw [hp1] at k1
      refine qg B F2 H2 σ1 e1 e2 v _ _ (ok1.mono x2) r2 hp1 fun σ2 ok2 _ => ?_
      have sf2 : Same F' F2 := sf.trans x2.ff
      refine qb (B.plus F') F2 H2 σ2 e2 _ (ok2.up xb.ff sf2) ?_
      cases hg1 : g e2 with
      | none => simp only [hg1] at k1; exact k1.elim
      | some o =>
        simp only [hg1] at k1
        cases o with
        | nx e3 => exact fun F3 H3 σ3 ok3 => ⟨F3, e3, ok3.ext.ff, EnvOk.down xb ok3, k1⟩
        | ct e3 => exact fun F3 H3 σ3 ok3 => ⟨F3, e3, ok3.ext.ff, EnvOk.down xb ok3, k1⟩
        | bk e3 => exact fun F3 H3 σ3 ok3 => k1 F3 H3 σ3 (EnvOk.down xb ok3)
        | rt o d => exact fun F3 H3 v3 x3 r3 => k1 F3 H3 v3 (Ext.down xb x3) (RM.down r3)
        | xc c e3 => exact fun F3 H3 σ3 ok3 => k1 F3 H3 σ3 (EnvOk.down xb ok3)
  · have e : i = ds.length := by omega
    subst e
    refine .inl ⟨it.2 F1 H1 sf ok1.fh, ?_⟩
    rw [List.drop_length] at k1
    exact k1 F1 H1 σ1 ok1
/-! ### while, with so many turns at most -/
def whileD (p : DEnv → M Bool) (g : DEnv → Option Out) : Nat → DEnv → Option Out
  | 0, _ => none
  | n + 1, env => eS (p env) env fun b => if b then match g env with
      | some (.nx e) => whileD p g n e
      | some (.ct e) => whileD p g n e
      | some (.bk e) => some (.nx e)
      | o => o
    else some (.nx env)
theorem ds_while {c : Expr} {body : List Stmt} {p : DEnv → M Bool} (n : Nat) (hp : PassesOwn (model X.prog X.w) X.A X.env X.xe) (hc : DT X W c p) (hb : DSs X W body g) : DS X W (.While c body [] pos) (whileD p g n) := by
  obtain ⟨tc, hc, qc⟩ := hc
  obtain ⟨tb, hb, qb⟩ := hb
  refine ⟨_, ps_while hp hc hb, fun B F H σ env D ok h => ⟨fun m σ1 H1 => ∃ F1 e1, EnvOk X.K X.w B F1 H1 σ1 e1 ∧ AnsO (whileD p g m e1) (OutOk X.K X.w B W D), ⟨n, F, env, ok, h⟩, ?_⟩⟩
  rintro m σ1 H1 ⟨F1, e1, ok1, k1⟩
  cases m with
  | zero => exact k1.elim
  | succ m =>
    unfold whileD at k1
    refine qc B F1 H1 σ1 e1 _ ok1 ((AnsO.eS ok1 k1).mono (fun b k F2 H2 x2 => ?_) fun c k => k)
    have ok2 := ok1.mono x2
    cases b with
    | false => exact k F2 H2 σ1 ok2
    | true =>
      rw [if_pos rfl] at k ⊢
      refine ⟨fun σ3 H3 => ∃ F3 e3, EnvOk X.K X.w B F3 H3 σ3 e3 ∧ AnsO (whileD p g m e3) (OutOk X.K X.w B W D), fun σ3 H3 z => ⟨m, Nat.lt_succ_self m, z⟩, qb B F2 H2 σ1 e1 _ ok2 ?_⟩
      cases hg1 : g e1 with
      | none => simp only [hg1] at k; exact k.elim
      | some o =>
        simp only [hg1] at k
        cases o with
        | nx e3 => exact fun F3 H3 σ3 ok3 => ⟨F3, e3, ok3, k⟩
        | ct e3 => exact fun F3 H3 σ3 ok3 => ⟨F3, e3, ok3, k⟩
        | bk e3 => exact k
        | rt o d => exact k
        | xc c e3 => exact k
end
end DL

/-! The data layer, part 7: comprehensions, calls of defs, defs. -/
namespace DL
open PySem PySem.Spec PyProof.Rows L2

/-! ### the readings, as functions of the data alone -/
def tDE (K : PySem.W.Frag) (w : World) (hd : Option Value) (W : WX) (md : Md) (f : DEnv → M D) : TE := fun σ H Q => ∃ (B : Bs hd) (F : Hp) (env : DEnv), EnvOk K w B F H σ env ∧
  Ans (f env) (fun d => ∀ v F' H', Ext F H F' H' → RM K w H F' H' md v d → Q v H') (fun c => ∀ F' H', Ext F H F' H' → W c none σ H')
def tDT (K : PySem.W.Frag) (w : World) (hd : Option Value) (W : WX) (f : DEnv → M Bool) : TT := fun σ H Q => ∃ (B : Bs hd) (F : Hp) (env : DEnv), EnvOk K w B F H σ env ∧
  Ans (f env) (fun b => ∀ F' H', Ext F H F' H' → Q b H') (fun c => ∀ F' H', Ext F H F' H' → W c none σ H')
def tDG (K : PySem.W.Frag) (w : World) (hd : Option Value) (sl : List Nat) (f : D → DEnv → Option DEnv) : TG := fun v σ H Q => ∃ (B : Bs hd) (F : Hp) (env env' : DEnv) (d : D), EnvOk K w B F H σ env ∧ Rp K w F v d ∧ f d env = some env' ∧
  ∀ σ', EnvOk K w B F H σ' env' → SameOut sl σ σ' → Q σ' H
section
variable {X : Cx} {W : WX} {e a b elt tg iter : Expr} {f fa fb : DEnv → M D} {pos : Pos} {st : Stmt} {g h : DEnv → Option Out}
theorem DE.pe {md : Md} (h : DE X W md e f) : PE X e (tDE X.K X.w X.A.handled W md f) := by
  obtain ⟨t, h, q⟩ := h
  exact ⟨fun pins s σ H Q I ⟨B, F, env, ok, k⟩ => h.run pins s σ H Q I (q B F H σ env Q ok k)⟩
theorem DT.pt {f : DEnv → M Bool} (h : DT X W e f) : PT X e (tDT X.K X.w X.A.handled W f) := by
  obtain ⟨t, h, q⟩ := h
  exact ⟨fun pins s σ H Q I ⟨B, F, env, ok, k⟩ => h.run pins s σ H Q I (q B F H σ env Q ok k)⟩
theorem DG.pg {sl : List Nat} {f : D → DEnv → Option DEnv} (h : DG X e sl f) : PG X e (tDG X.K X.w X.A.handled sl f) := by
  obtain ⟨t, h, q⟩ := h
  exact ⟨fun pins s σ H v u Q I r ⟨B, F, env, env', d, ok, rp, hf, k⟩ => h.run pins s σ H v u Q I r (q B F H σ env env' v d Q ok rp hf k)⟩
/-- the tests of a comprehension: none, one -/
structure DTs (X : Cx) (W : WX) (ifs : List Expr) (f : DEnv → M Bool) : Prop where
  run : PTs X ifs (tDT X.K X.w X.A.handled W f)
def dYes (_ : DEnv) : M Bool := mok true
theorem dts_nil : DTs X W [] dYes := by
  refine ⟨⟨fun pins s σ H Q I ⟨B, F, env, ok, k⟩ => pts_nil.run pins s σ H Q I (k F H (.refl ok.fh))⟩⟩
theorem dts_one {c : Expr} {f : DEnv → M Bool} (h : DT X W c f) : DTs X W [c] f := ⟨pts_one h.pt⟩

/-! ### comprehensions -/
theorem wipe_wipe (σ : L2.St) (vs : List Nat) : L2.wipe (L2.wipe σ vs) vs = L2.wipe σ vs := by
  have key : ∀ us : List Nat, (∀ i ∈ us, i ∈ vs) → L2.wipe (L2.wipe σ us) vs = L2.wipe σ vs := by
    intro us
    induction us with
    | nil => exact fun _ => rfl
    | cons u us ih =>
      intro h
      show L2.wipe ((L2.wipe σ us).set u none) vs = L2.wipe σ vs
      rw [wipe_set _ _ _ vs (h u List.mem_cons_self)]
      exact ih fun i hi => h i (List.mem_cons_of_mem _ hi)
  exact key vs fun _ h => h
def wipeD (env : DEnv) : List Nat → DEnv
  | [] => env
  | v :: vs => (wipeD env vs).set v none
theorem EnvOk.wipe {K : PySem.W.Frag} {w : World} {hd : Option Value} {B : Bs hd} {F H : Hp} {σ : L2.St} {env : DEnv} (x : EnvOk K w B F H σ env) : ∀ vs : List Nat, EnvOk K w B F H (L2.wipe σ vs) (wipeD env vs)
  | [] => x
  | v :: vs => (EnvOk.wipe x vs).drop v none
def lcD (p : D → DEnv → Option DEnv) (t : DEnv → M Bool) (f : DEnv → M D) (env : DEnv) : List D → Option (List D)
  | [] => some []
  | d :: ds => match p d env with
    | none => none
    | some e => match t e with
      | some (.ok true) => match f e with
        | some (.ok x) => (lcD p t f env ds).map (x :: ·)
        | _ => none
      | some (.ok false) => lcD p t f env ds
      | _ => none
def dLc (vs : List Nat) (p : D → DEnv → Option DEnv) (s : DEnv → M (List D)) (t : DEnv → M Bool) (f : DEnv → M D) (env : DEnv) : M D := mbind (s env) fun ds =>
  if ds.length ≤ sizeLine then match lcD p t f (wipeD env vs) ds with
    | some xs => mok (.list xs)
    | none => none else none
/-- no exception within -/
abbrev W0 : WX := fun _ _ _ _ => False
theorem lc_ans {hd : Option Value} {K : PySem.W.Frag} {w : World} {wi : TI} {own : List Nat} {sl : List Nat} {p : D → DEnv → Option DEnv} {s : DEnv → M (List D)} {t : DEnv → M Bool} {f : DEnv → M D} (hsl : ∀ i ∈ sl, i ∈ own)
    (qi : ∀ (B : Bs hd) (F H : Hp) (σ : L2.St) (env : DEnv) (R : It → Hp → Prop), EnvOk K w B F H σ env → Ans (s env) (fun ds => ∀ J F' H', Ext F H F' H' → ItOk K w J F' ds → R J H') (fun c => ∀ F' H', Ext F H F' H' → W c none σ H') → wi σ H R)
    {B : Bs hd} {F H : Hp} {σ : L2.St} {env : DEnv} {Q : VK} (ok : EnvOk K w B F H σ env)
    (h : Ans (dLc own p s t f env) (fun d => ∀ v F' H', Ext F H F' H' → RM K w H F' H' .o v d → Q v H') (fun c => ∀ F' H', Ext F H F' H' → W c none σ H')) :
    tLc wi (tDG K w hd sl p) (tDT K w hd W0 t) (tDE K w hd W0 .v f) own σ H Q := by
  refine qi B F H σ env _ ok (h.bind.mono (fun ds k J F' H' x it D hD => ?_) fun c k => k)
  split at k
  · rename_i hz
    cases hlc : lcD p t f (wipeD env own) ds with
    | none => rw [hlc] at k; exact k.elim
    | some out =>
      rw [hlc] at k
      have ok0 : EnvOk K w B F' H' (L2.wipe σ own) (wipeD env own) := (ok.mono x).wipe own
      have fD : F' D = none := x.fh.free hD
      -- after i turns: the first ones' answers stand at D
      refine ⟨fun i m H1 => m = ds.length - i ∧ i ≤ ds.length ∧ ∃ F1 vs xs ys, Ext F' H' F1 H1 ∧ F1 D = none ∧ H1 D = some (.lst vs) ∧ RpA K w F1 vs xs ∧ xs.length ≤ i ∧ lcD p t f (wipeD env own) (ds.drop i) = some ys ∧ out = xs ++ ys,
        ⟨_, rfl, Nat.zero_le _, F', [], [], out, Ext.newO x.fh hD, fD, upd_same, .nil, Nat.le_refl _, hlc, rfl⟩, ?_⟩
      rintro i m H1 ⟨rfl, hil, F1, vs, xs, ys, x1, f1, h1, r1, hl1, l1, e1⟩
      by_cases hlt : i < ds.length
      · have hd : ds[i]? = some ds[i] := List.getElem?_eq_getElem hlt
        have ed : ds.drop i = ds[i] :: ds.drop (i + 1) := List.drop_eq_getElem_cons hlt
        rw [ed] at l1
        obtain ⟨go, yl⟩ := it.1 F1 H1 i _ x1.ff x1.fh hd
        refine .inr ⟨go, fun H2 => ∃ F1 vs xs ys, Ext F' H' F1 H2 ∧ F1 D = none ∧ H2 D = some (.lst vs) ∧ RpA K w F1 vs xs ∧ xs.length ≤ i + 1 ∧ lcD p t f (wipeD env own) (ds.drop (i + 1)) = some ys ∧ out = xs ++ ys,
          fun H2 z => ⟨_, by omega, rfl, hlt, z⟩, fun v H2 y => ?_⟩
        obtain ⟨F2, x2, r2⟩ := yl v H2 y
        unfold lcD at l1
        cases hp1 : p ds[i] (wipeD env own) with
        | none => rw [hp1] at l1; cases l1
        | some e2 =>
          rw [hp1] at l1
          have keepD : ∀ {F3 H3 : Hp}, Ext F1 H1 F3 H3 → F3 D = none ∧ H3 D = some (.lst vs) := fun {F3 H3} x3 => by
            refine ⟨?_, x3.hh _ _ h1⟩
            cases q : F3 D with
            | none => rfl
            | some o =>
              rcases x3.nw D o q with z | z | z
              · rw [f1] at z; cases z
              · rw [h1] at z; cases z
              · have e1 := x3.fh _ _ q
                rw [x3.hh _ _ h1] at e1; cases e1
                exact z.elim
          refine ⟨B, F2, wipeD env own, e2, ds[i], (ok0.mono x1).mono x2, r2, hp1, fun σ2 ok2 so => ⟨so own hsl |>.trans ?_, ?_⟩⟩
          · exact wipe_wipe σ own
          · refine ⟨B, F2, e2, ok2, ?_⟩
            cases ht : t e2 with
            | none => simp only [ht] at l1; cases l1
            | some rt =>
              cases rt with
              | error c => simp only [ht] at l1; cases l1
              | ok bt =>
                intro F3 H3 x3
                cases bt with
                | false =>
                  simp only [ht] at l1
                  obtain ⟨k1, k2⟩ := keepD (x2.trans x3)
                  exact ⟨F3, vs, xs, ys, (x1.trans x2).trans x3, k1, k2, r1.mono (x2.ff.trans x3.ff), Nat.le_succ_of_le hl1, l1, e1⟩
                | true =>
                  simp only [ht] at l1
                  rw [if_pos rfl]
                  refine ⟨B, F3, e2, ok2.mono x3, ?_⟩
                  cases hf : f e2 with
                  | none => simp only [hf] at l1; cases l1
                  | some rf =>
                    cases rf with
                    | error c => simp only [hf] at l1; cases l1
                    | ok z =>
                      simp only [hf] at l1
                      intro u F4 H4 x4 r4
                      obtain ⟨k1, k2⟩ := keepD ((x2.trans x3).trans x4)
                      obtain ⟨ys', hy, ey⟩ := Option.map_eq_some_iff.mp l1
                      have hlen : vs.length < sizeLine := by
                        rw [r1.length]
                        omega
                      refine ⟨vs, k2, hlen, F4, vs ++ [u], xs ++ [z], ys', ?_, k1, upd_same, (r1.mono ((x2.ff.trans x3.ff).trans x4.ff)).append (.cons r4 .nil), by simp; exact hl1, hy, by rw [e1, ← ey]; simp⟩
                      have xx := ((x1.trans x2).trans x3).trans x4
                      exact ⟨xx.ff, same_upd2 xx.hh hD, same_upd2 xx.fh k1, xx.nw⟩
      · have e : i = ds.length := by omega
        subst e
        refine .inl ⟨it.2 F1 H1 x1.ff x1.fh, ?_⟩
        rw [List.drop_length] at l1
        cases l1
        rw [List.append_nil] at e1
        subst e1
        exact k _ F1 H1 (x.trans x1) ⟨⟨D, rfl, .inl ⟨vs, _, rfl, h1, r1⟩⟩, D, rfl, x.hh.free hD, f1⟩
  · exact k.elim

section
variable {scope : Scope} {own : List (Str × Nat)} {ifs : List Expr} {sl vs : List Nat} {p : D → DEnv → Option DEnv} {s : DEnv → M (List D)} {t : DEnv → M Bool}
theorem de_lc (hc : X.calm = true) (hN : X.N.Nodup) (hi : DI X W tg iter s) (ok : BlkOk X.N X.env.scope scope own)
    (hg : ∀ (s : Shared) (H : Hp) (C : Addr) (cl : List (Str × Addr)) (fp : List Addr), DG (X.blk s H scope (compEnvC scope cl C X.env) fp) tg sl p)
    (ht : ∀ (s : Shared) (H : Hp) (C : Addr) (cl : List (Str × Addr)) (fp : List Addr), DTs (X.blk s H scope (compEnvC scope cl C X.env) fp) W0 ifs t)
    (he : ∀ (s : Shared) (H : Hp) (C : Addr) (cl : List (Str × Addr)) (fp : List Addr), DE (X.blk s H scope (compEnvC scope cl C X.env) fp) W0 .v elt f) (hsl : ∀ i ∈ sl, i ∈ vs := by decide) (hvs : own.map (·.2) = vs := by rfl)
    (hs : ∀ x, foldedSetIterable iter X.env x = pure x := by intro _; rfl) : DE X W .o (.ListComp elt [⟨tg, iter, ifs, 0⟩] scope pos) (dLc vs p s t f) := by
  subst hvs
  obtain ⟨wi, hi, qi⟩ := hi
  exact ⟨_, pe_lc hc hN hi ok (fun s H C cl fp => (hg s H C cl fp).pg) (fun s H C cl fp => (ht s H C cl fp).run) (fun s H C cl fp => (he s H C cl fp).pe) hs, fun B F H σ env Q ok h => lc_ans hsl qi ok h⟩
/-- y = [..] on one line, y a local -/
theorem ds_setLc {i : Nat} {y : Str} {py spos : Pos} (hc : X.calm = true) (hN : X.N.Nodup) (hy : X.N[i]? = some y) (hyl : X.env.scope.names.lookup y = some .local)
    (hsw : swapsWith (.ListComp elt [⟨tg, iter, ifs, 0⟩] scope pos) (some (.Name y py)) spos.line X.env = pure true) (hi : DI X W tg iter s) (ok : BlkOk X.N X.env.scope scope own)
    (hg : ∀ (s : Shared) (H : Hp) (C : Addr) (cl : List (Str × Addr)) (fp : List Addr), DG (X.blk s H scope (compEnvC scope cl C X.env) fp) tg sl p)
    (ht : ∀ (s : Shared) (H : Hp) (C : Addr) (cl : List (Str × Addr)) (fp : List Addr), DTs (X.blk s H scope (compEnvC scope cl C X.env) fp) W0 ifs t)
    (he : ∀ (s : Shared) (H : Hp) (C : Addr) (cl : List (Str × Addr)) (fp : List Addr), DE (X.blk s H scope (compEnvC scope cl C X.env) fp) W0 .v elt f) (hsl : ∀ i ∈ sl, i ∈ vs := by decide) (hvs : own.map (·.2) = vs := by rfl)
    (hs : ∀ x, foldedSetIterable iter X.env x = pure x := by intro _; rfl) : DS X W (.Assign [.Name y py] (.ListComp elt [⟨tg, iter, ifs, 0⟩] scope pos) spos) (dSetO i (dLc vs p s t f)) := by
  subst hvs
  obtain ⟨wi, hi, qi⟩ := hi
  exact ⟨_, ps_setLc hc hN hy hyl hsw hi ok (fun s H C cl fp => (hg s H C cl fp).pg) (fun s H C cl fp => (ht s H C cl fp).run) (fun s H C cl fp => (he s H C cl fp).pe) hs,
    fun B F H σ env D ok h => lc_ans hsl qi ok (setO ok h)⟩
end

/-! ### defs -/
inductive Res where
  | ret (o : Bool) (d : D)
  | exc (c : Value)
/-- a def's promise: G of the arguments' data -/
def spD (K : PySem.W.Frag) (w : World) (n : Nat) (G : List D → Option Res) : Sp := fun vs H Q E => vs.length = n ∧ ∃ F ds, Same F H ∧ RpA K w F vs ds ∧ match G ds with
  | none => False
  | some (.ret o d) => ∀ F' H' v, Ext F H F' H' → RM K w H F' H' (mdOf o) v d → Q v H'
  | some (.exc c) => ∀ F' H', Ext F H F' H' → E c none H'
def dRes (r : Option Res) : M D := match r with
  | none => none
  | some (.ret _ d) => mok d
  | some (.exc c) => some (.error c)
def dResO (r : Option Res) : M D := match r with
  | some (.ret true d) => mok d
  | some (.exc c) => some (.error c)
  | _ => none
def dFn (G : List D → Option Res) (fs : DEnv → M (List D)) (env : DEnv) : M D := mbind (fs env) fun ds => dRes (G ds)
def dFnO (G : List D → Option Res) (fs : DEnv → M (List D)) (env : DEnv) : M D := mbind (fs env) fun ds => dResO (G ds)
mutual
/-- no list and no dict within -/
def flat : D → Bool
  | .none => true
  | .bool _ => true
  | .int _ => true
  | .str _ => true
  | .tuple xs => flats xs
  | .list _ => false
  | .dict _ => false
def flats : List D → Bool
  | [] => true
  | x :: xs => flat x && flats xs
end
def dFnS (G : List D → Option Res) (fs : DEnv → M (List D)) (env : DEnv) : M D := mbind (fs env) fun ds => match G ds with
  | some (.ret _ d) => if flat d = true then mok d else none
  | some (.exc c) => some (.error c)
  | none => none
/-- F with the tuples of G -/
def tps (F G : Hp) : Hp := fun a => match F a with
  | some o => some o
  | none => match G a with
    | some (.tup vs) => some (.tup vs)
    | some (.frz o (.tup vs)) => some (.frz o (.tup vs))
    | _ => none
theorem tps_same (F G : Hp) : Same F (tps F G) := fun a o h => by
  unfold tps
  rw [h]
theorem tps_in {F G : Hp} (s : Same F G) : Same (tps F G) G := fun a o h => by
  unfold tps at h
  cases hF : F a with
  | some o' => rw [hF] at h; cases h; exact s _ _ hF
  | none =>
    rw [hF] at h
    simp only at h
    split at h
    · rename_i q; cases h; exact q
    · rename_i q; cases h; exact q
    · cases h
theorem tps_tp {F G : Hp} {a : Addr} {o : HO} (h : tps F G a = some o) : F a = some o ∨ Tp o := by
  unfold tps at h
  cases hF : F a with
  | some o' => rw [hF] at h; cases h; exact .inl rfl
  | none =>
    rw [hF] at h
    simp only at h
    split at h
    · cases h; exact .inr trivial
    · cases h; exact .inr trivial
    · cases h
theorem tps_sq {K : PySem.W.Frag} {F G : Hp} {a : Addr} {vs : List V} (s : Same F G) (h : SqT K G a vs) : SqT K (tps F G) a vs := by
  rcases h with (h | ⟨o, h⟩) | h
  · refine .inl (.inl ?_)
    unfold tps
    cases hF : F a with
    | some o' => have := s _ _ hF; rw [h] at this; cases this; rfl
    | none => simp only [h]
  · refine .inl (.inr ⟨o, ?_⟩)
    unfold tps
    cases hF : F a with
    | some o' => have := s _ _ hF; rw [h] at this; cases this; rfl
    | none => simp only [h]
  · exact .inr h
theorem tps_nice {K : PySem.W.Frag} {F G : Hp} {a : Addr} (s : Same F G) (h : Nice K G a) : Nice K (tps F G) a := by
  rcases h with ⟨o, vs, h, h2⟩ | h
  · refine .inl ⟨o, vs, ?_, h2⟩
    unfold tps
    cases hF : F a with
    | some o' => have := s _ _ hF; rw [h] at this; cases this; rfl
    | none => simp only [h]
  · exact .inr h
mutual
theorem flat_rp {K : PySem.W.Frag} {w : World} {F G : Hp} (s : Same F G) : ∀ {v : V} {d : D}, flat d = true → Rp K w G v d → Rp K w (tps F G) v d
  | _, _, _, .non => .non
  | _, _, _, .bl b => .bl b
  | _, _, _, .int i => .int i
  | _, _, _, .str x => .str x
  | _, _, h, .tup h1 h2 hn => .tup (tps_sq s h1) (flat_rps s (by simpa [flat] using h) h2) fun z => tps_nice s (hn z)
  | _, _, h, .lst h1 h2 => by simp [flat] at h
  | _, _, h, .dic h1 h2 => by simp [flat] at h
theorem flat_rps {K : PySem.W.Frag} {w : World} {F G : Hp} (s : Same F G) : ∀ {vs : List V} {ds : List D}, flats ds = true → RpA K w G vs ds → RpA K w (tps F G) vs ds
  | [], [], _, .nil => .nil
  | _ :: _, d :: ds, h, .cons h1 h2 => by
    have h' : flat d = true ∧ flats ds = true := by simpa [flats] using h
    exact .cons (flat_rp s h'.1 h1) (flat_rps s h'.2 h2)
end
theorem rm_freeze {K : PySem.W.Frag} {w : World} {F H F' H' : Hp} {o : Bool} {v : V} {d : D} (x : Ext F H F' H') (r : RM K w H F' H' (mdOf o) v d) : ∃ F2, Ext F H F2 H' ∧ Rp K w F2 v d := by
  cases o with
  | false => exact ⟨F', x, r⟩
  | true =>
    obtain ⟨ow, a, rfl, h1, h2⟩ := r
    obtain ⟨b, ob, e, hb⟩ := ow.obj
    cases e
    exact ⟨_, x.freeze h1 hb h2, ow.rp hb h2⟩
section
variable {k n : Nat} {fn : Addr} {fd : FuncData} {ps : List Str} {G : List D → Option Res} {x : Str} {pc : Pos} {es : List Expr} {fs : DEnv → M (List D)} {dvs : List V} {dds : List Value} {ddd : List D}
/-- a call with defaults behind the written arguments -/
theorem pe_callSD {CX : CXT} {sp : Sp} {E : L2.St → XK} {t : TA} (F : FnOk X.prog X.w X.K X.mg X.base CX k fn fd ps sp) (hr : Room k X.A) (hg : Gl X x) (hm : X.mg x = some (.ref fn)) (hk : PySem.W.keepIn X.K (.ref fn) = true) (hb : Binds X.K fd ps dds) (hd : Vals dvs dds) (hx : ∀ σ, PassesAt CX X σ (E σ))
    (ha : PA X (e :: es) t) (hdb : (x == ("__debug__" : Str)) = false := by decide) (he : starEach (e :: es) X.env = (false, eval e X.env) :: starEach es X.env := by rfl) (hpl : (backTo pos (starEach es X.env)).any (·.1) = false := by rfl) :
    PE X (.Call (.Name x pc) (e :: es) [] pos) (fun σ H Q => t σ H fun vs H1 => sp (vs ++ dvs) H1 Q (E σ)) := by
  refine ⟨fun pins s σ H Q I h => ?_⟩
  refine wpAny_Call_Name_kw (ld_glob I hg hm ?_ hdb)
  refine PySem.W.callWith_K (h₀ := X.base) I.ok.mod.kin hk (thn (ha.run pos pins s σ H _ I h) fun us s1 ⟨vs, H1, I1, r, q⟩ => ⟨I1.kIn, ?_⟩) he hpl
  have r2 : Vals (vs ++ dvs) (us ++ dds) := r.append hd
  have hl : (us ++ dds).length = ps.length := by rw [← r2.length]; exact F.len _ _ _ _ q
  refine wpAny_call (codeAny_mono (F.run X.A X.stack s1 H1 ⟨us, []⟩ (us ++ dds) (vs ++ dvs) Q (E σ) hr I1.env0 (hb s1 us I1.kIn hl) r2 q) fun r s' hq => ?_)
  cases r with
  | error c => exact hx σ pins H1 s1 c s' I1 hq
  | ok fl =>
    cases fl with
    | ret u => exact I1.after hq
    | next => exact False.elim hq
    | brk => exact False.elim hq
    | cont => exact False.elim hq
theorem de_call (F : FnOk X.prog X.w X.K X.mg X.base (L2.CX X.prog X.w) k fn fd ps (spD X.K X.w n G)) (hr : Room k X.A) (hg : Gl X x) (hm : X.mg x = some (.ref fn)) (hk : PySem.W.keepIn X.K (.ref fn) = true) (hb : Binds X.K fd ps dds) (hd : Vals dvs dds) (hdd : ∀ Fz, RpA X.K X.w Fz dvs ddd) (tk : Takes X W)
    (ha : DA X W .v (e :: es) fs) (hn : (e :: es).length + dvs.length = n := by rfl) (hdb : (x == ("__debug__" : Str)) = false := by decide) (he : starEach (e :: es) X.env = (false, eval e X.env) :: starEach es X.env := by rfl) (hpl : (backTo pos (starEach es X.env)).any (·.1) = false := by rfl) :
    DE X W .v (.Call (.Name x pc) (e :: es) [] pos) (dFn (fun ds => G (ds ++ ddd)) fs) := by
  obtain ⟨len, t, ha, qa⟩ := ha
  refine ⟨_, pe_callSD F hr hg hm hk hb hd (fun σ => passAt tk σ) ha hdb he hpl, fun B F0 H σ env Q ok h => qa B F0 H σ env _ ok (h.bind.monoE (fun ds hds k vs F1 H1 e1 rs => ?_) fun c _ k => k)⟩
  have hl : vs.length = (e :: es).length := (RMA.length rs).trans (len env ds hds)
  refine ⟨by rw [List.length_append, hl]; exact hn, F1, ds ++ ddd, e1.fh, RpA.append rs (hdd F1), ?_⟩
  unfold dRes at k
  split at k
  · exact k.elim
  · rename_i o d hG
    rw [show G (ds ++ ddd) = _ from hG]
    intro F2 H2 v x2 r2
    obtain ⟨F3, x3, r3⟩ := rm_freeze x2 r2
    exact k v F3 H2 (e1.trans x3) r3
  · rename_i c hG
    rw [show G (ds ++ ddd) = _ from hG]
    exact fun F2 H2 x2 => k F2 H2 (e1.trans x2)
theorem de_callO (F : FnOk X.prog X.w X.K X.mg X.base (L2.CX X.prog X.w) k fn fd ps (spD X.K X.w n G)) (hr : Room k X.A) (hg : Gl X x) (hm : X.mg x = some (.ref fn)) (hk : PySem.W.keepIn X.K (.ref fn) = true) (hb : Binds X.K fd ps dds) (hd : Vals dvs dds) (hdd : ∀ Fz, RpA X.K X.w Fz dvs ddd) (tk : Takes X W)
    (ha : DA X W .v (e :: es) fs) (hn : (e :: es).length + dvs.length = n := by rfl) (hdb : (x == ("__debug__" : Str)) = false := by decide) (he : starEach (e :: es) X.env = (false, eval e X.env) :: starEach es X.env := by rfl) (hpl : (backTo pos (starEach es X.env)).any (·.1) = false := by rfl) :
    DE X W .o (.Call (.Name x pc) (e :: es) [] pos) (dFnO (fun ds => G (ds ++ ddd)) fs) := by
  obtain ⟨len, t, ha, qa⟩ := ha
  refine ⟨_, pe_callSD F hr hg hm hk hb hd (fun σ => passAt tk σ) ha hdb he hpl, fun B F0 H σ env Q ok h => qa B F0 H σ env _ ok (h.bind.monoE (fun ds hds k vs F1 H1 e1 rs => ?_) fun c _ k => k)⟩
  have hl : vs.length = (e :: es).length := (RMA.length rs).trans (len env ds hds)
  refine ⟨by rw [List.length_append, hl]; exact hn, F1, ds ++ ddd, e1.fh, RpA.append rs (hdd F1), ?_⟩
  unfold dResO at k
  split at k
  · rename_i d hG
    rw [show G (ds ++ ddd) = _ from hG]
    exact fun F2 H2 v x2 r2 => k v F2 H2 (e1.trans x2) (RM.back e1.hh r2)
  · rename_i c hG
    rw [show G (ds ++ ddd) = _ from hG]
    exact fun F2 H2 x2 => k F2 H2 (e1.trans x2)
  · exact k.elim
/-- arguments as they stand, a flat answer: one's own lists stay one's own -/
theorem de_callS (F : FnOk X.prog X.w X.K X.mg X.base (L2.CX X.prog X.w) k fn fd ps (spD X.K X.w n G)) (hr : Room k X.A) (hg : Gl X x) (hm : X.mg x = some (.ref fn)) (hk : PySem.W.keepIn X.K (.ref fn) = true) (hb : Binds X.K fd ps dds) (hd : Vals dvs dds) (hdd : ∀ Fz, RpA X.K X.w Fz dvs ddd) (tk : Takes X W)
    (ha : DA X W .s (e :: es) fs) (hn : (e :: es).length + dvs.length = n := by rfl) (hdb : (x == ("__debug__" : Str)) = false := by decide) (he : starEach (e :: es) X.env = (false, eval e X.env) :: starEach es X.env := by rfl) (hpl : (backTo pos (starEach es X.env)).any (·.1) = false := by rfl) :
    DE X W .v (.Call (.Name x pc) (e :: es) [] pos) (dFnS (fun ds => G (ds ++ ddd)) fs) := by
  obtain ⟨len, t, ha, qa⟩ := ha
  refine ⟨_, pe_callSD F hr hg hm hk hb hd (fun σ => passAt tk σ) ha hdb he hpl, fun B F0 H σ env Q ok h => qa B F0 H σ env _ ok (h.bind.monoE (fun ds hds k vs F1 H1 e1 rs => ?_) fun c _ k => k)⟩
  have hl : vs.length = (e :: es).length := (RMA.length rs).trans (len env ds hds)
  have all : ∀ {vs : List V} {ds : List D}, Paired (Sh X.K X.w F1 H1) vs ds → RpA X.K X.w H1 vs ds := fun {vs ds} h => by
    induction h with
    | nil => exact .nil
    | cons h _ ih => exact .cons (Sh.all h e1.fh) ih
  refine ⟨by rw [List.length_append, hl]; exact hn, H1, ds ++ ddd, Same.refl _, RpA.append (all rs) (hdd H1), ?_⟩
  have back : ∀ {F2 H2 : Hp}, Ext H1 H1 F2 H2 → Ext F1 H1 F1 H2 := fun {F2 H2} x2 => ⟨Same.refl _, x2.hh, e1.fh.trans x2.hh, fun _ _ e => .inl e⟩
  split at k
  · rename_i o d hG
    rw [show G (ds ++ ddd) = _ from hG]
    split at k
    · rename_i hfl
      intro F2 H2 v x2 r2
      obtain ⟨F3, x3, r3⟩ := rm_freeze x2 r2
      refine k v (tps F1 F3) H2 (e1.trans ⟨tps_same _ _, x2.hh, (tps_in (e1.fh.trans x3.ff)).trans x3.fh, fun a o h => ?_⟩) (flat_rp (e1.fh.trans x3.ff) hfl r3)
      rcases tps_tp h with z | z
      · exact .inl z
      · exact .inr (.inr z)
    · exact k.elim
  · rename_i c hG
    rw [show G (ds ++ ddd) = _ from hG]
    exact fun F2 H2 x2 => k F1 H2 (e1.trans (back x2))
  · exact k.elim
end
/-! ### a def's body keeps its promise -/
def startD (n : Nat) (ds : List D) : DEnv := ds.map (fun d => some (.fz d)) ++ List.replicate (n - ds.length) none
def resOf : Option Out → Option Res
  | some (.rt o d) => some (.ret o d)
  | some (.nx _) => some (.ret false .none)
  | some (.xc c _) => some (.exc c)
  | _ => none
def runD (n : Nat) (g : DEnv → Option Out) (ds : List D) : Option Res := resOf (g (startD n ds))
theorem start_ok {hd : Option Value} {K : PySem.W.Frag} {w : World} {F H : Hp} {vs : List V} {ds : List D} (N : List Str) (s : Same F H) (r : RpA K w F vs ds) : EnvOk K w (⟨F, H, none⟩ : Bs hd) F H (L2.start N vs) (startD N.length ds) := by
  have hl := r.length
  have hnone : ∀ (i : Nat) (t : Sl), (startD N.length ds)[i]? = some (some t) → ∃ d, ds[i]? = some d ∧ t = .fz d := fun i t q => by
    unfold startD at q
    rw [List.getElem?_append] at q
    split at q
    · rw [List.getElem?_map] at q
      cases q2 : ds[i]? with
      | none => rw [q2] at q; cases q
      | some d => rw [q2] at q; cases q; exact ⟨d, rfl, rfl⟩
    · rw [List.getElem?_replicate] at q
      split at q <;> cases q
  refine ⟨.refl s, ?_, fun i t q => ?_, fun i j d e a _ m1 m2 q => ?_⟩
  · unfold startD L2.start
    simp [hl]
  · obtain ⟨d, h1, rfl⟩ := hnone i t q
    obtain ⟨v, h2, h3⟩ := r.get h1
    refine ⟨v, ?_, h3⟩
    unfold L2.start
    have hi : i < vs.length := (List.getElem?_eq_some_iff.mp h2).1
    rw [List.getElem?_append_left (by simpa using hi), List.getElem?_map, h2]
    rfl
  · obtain ⟨d, h1, h2⟩ := hnone i _ q
    cases h2
    cases m1
section
variable {P : Program} {w : World} {K : PySem.W.Frag} {mg : Str → Option Value} {base : Heap}
/-- a def whose body is g -/
theorem fn_ok {x qual : Str} {st : Stmt} {fn : Addr} {fd : FuncData} {N ps : List Str} {k n : Nat} {g : DEnv → Option Out} (Fn : Fun K x qual st fn fd) (S : FnScope N ps (defScope st)) (hn : ps.length = n)
    (hb : ∀ (cdv : Value) (A : Around) (outer : List Env) (s : Shared) (H : Hp) (E : XK), Room k (A.deeper (envOfC qual (defScope st) s.heap.objs.size fn cdv)) →
      DSs (cxOf (L2.CX P w) P w K mg base N qual (defScope st) fn cdv A outer s H E) (fun cls d _ H => E cls d H) (defBody st) g) : FnOk P w K mg base (L2.CX P w) (k + 1) fn fd ps (spD K w n (runD N.length g)) := by
  refine Fn.okX S (fun vs H Q E h => h.1.trans hn.symm) (fun cdv A outer s H vs Q E hr h => ?_)
  obtain ⟨hl, F, ds, sm, ra, h⟩ := h
  obtain ⟨t, ht, q⟩ := hb cdv A outer s H E hr
  refine ⟨t, ht, q ⟨F, H, none⟩ F H (L2.start N vs) (startD N.length ds) _ (start_ok N sm ra) ?_⟩
  unfold runD at h
  cases hg : g (startD N.length ds) with
  | none => rw [hg] at h; exact h.elim
  | some o =>
    rw [hg] at h
    cases o with
    | nx e => exact fun F' H' σ' ok => h F' H' .non ok.ext .non
    | rt o d => exact fun F' H' v x r => h F' H' v x r
    | bk e => exact h.elim
    | ct e => exact h.elim
    | xc c e => exact fun F' H' σ' ok => h F' H' ok.ext
end
end
end DL

/-! The data layer, part 8: enumerate of a tuple; a for over a list or a tuple; -n. -/
namespace DL
open PySem PySem.Spec PyProof.Rows L2
open AutoSeq1 (wpAny_loadPart')

theorem meets_enum_newT (l : Addr) (items : Array Value) :
    Meets (Builtin.«enumerate.__new__» ⟨[.type "enumerate", .ref l], []⟩) (fun _ R s => s.heap.IsTuple l items ∧
      R (.ok (.ret (.ref (s.heap.push { cls := .type "tuple_iterator", data := .fields #[.ref l, .int 0 0] }).objs.size)))
        { s with heap := (s.heap.push { cls := .type "tuple_iterator", data := .fields #[.ref l, .int 0 0] }).push { cls := .type "enumerate", data := .fields #[.none, .bool false, .ref s.heap.objs.size, rawInt 0, .none, .none] } }) :=
  .of_wp fun prog w A R s h => by
    obtain ⟨hp, g, d, tk, os⟩ := s; obtain ⟨h1, h⟩ := h
    have hsub := sub_enumerate
    have q1 : ∀ {A' : Around} {E : Value → Shared → Prop} {Q : Value → Shared → Prop}, Q (.ref hp.objs.size) ⟨hp.push { cls := .type "tuple_iterator", data := .fields #[.ref l, .int 0 0] }, g, d, tk, os⟩ → wpAny (model prog w) A' (pyIter (.ref l)) Q E ⟨hp, g, d, tk, os⟩ :=
      fun q => wpAny_pyIter_tuple (s := ⟨hp, g, d, tk, os⟩) h1 q
    wp_walk using q1
    refine wpAny_stack_any fun st => wpAny_pure ?_
    split
    · rename_i c _ _ _ _ _
      cases (c == Value.type "enumerate")
      · wp_walk using q1
        exact ⟨_, rfl, h⟩
      · wp_walk using q1
        exact ⟨_, rfl, h⟩
    · wp_walk using q1
      exact ⟨_, rfl, h⟩
theorem call_enum_tuple {prog : Program} {w : World} {A : Around} {E : Value → Shared → Prop} {s : Shared} {l : Addr} {items : Array Value} {Q : Value → Shared → Prop} (hL : s.heap.IsTuple l items)
    (h : ∀ h', IsEnum h' (s.heap.objs.size + 1) s.heap.objs.size 0 .none → h'.IsTupleIter s.heap.objs.size l 0 → h'.objs.size = s.heap.objs.size + 2 →
      (∀ b o, s.heap.get? b = some o → h'.get? b = some o) → Q (.ref (s.heap.objs.size + 1)) { s with heap := h' }) :
    wpAny (model prog w) A (call (.type "enumerate") [.ref l]) Q E s := by
  refine callType_new F.called_enumerate (by decide) (F.typeCall_enumerate_1 _) (F.newCall_enumerate_1 _) (fun obj => F.args_object_init_2 obj _) F.entry_enumerate_new
    (meets_enum_newT l items) ⟨hL, ?_⟩
  have hz : (s.heap.push { cls := .type "tuple_iterator", data := .fields #[.ref l, .int 0 0] }).objs.size = s.heap.objs.size + 1 := Heap.size_push ..
  show _ ∧ _
  rw [hz]
  have he : IsEnum ((s.heap.push { cls := .type "tuple_iterator", data := .fields #[.ref l, .int 0 0] }).push
      { cls := .type "enumerate", data := .fields #[.none, .bool false, .ref s.heap.objs.size, rawInt 0, .none, .none] }) (s.heap.objs.size + 1) s.heap.objs.size 0 .none := by
    have := Heap.get?_push_size (s.heap.push { cls := .type "tuple_iterator", data := .fields #[.ref l, .int 0 0] })
      (o := { cls := .type "enumerate", data := .fields #[.none, .bool false, .ref s.heap.objs.size, rawInt 0, .none, .none] }) rfl
    rw [hz] at this; exact this
  exact ⟨⟨_, he, rfl⟩, h _ he ⟨_, Heap.get?_push_of_some _ (Heap.get?_push_size _ rfl), rfl, rfl⟩ (by rw [Heap.size_push, hz]) fun b o x => Heap.get?_push_of_some _ (Heap.get?_push_of_some _ x)⟩
/-- the tuple at a as it stands at each turn, each item in a new pair -/
def IteT (K : PySem.W.Frag) (a : Addr) : It :=
  ⟨fun i H => ∃ (xs : List V) (x : V), SqT K H a xs ∧ xs[i]? = some x, fun i H v H' => ∃ T x, v = .ref T ∧ H T = none ∧ H' = upd H T (.tup [.int (i : Nat), x]) ∧ ∀ xs, SqT K H a xs → xs[i]? = some x, fun i H => ∃ xs : List V, SqT K H a xs ∧ xs.length = i⟩
theorem turn_enumT {P : Program} {w : World} {K : PySem.W.Frag} {elts : List Expr} {kk : Nat} {tpos : Pos} (a e it : Addr) (hai : a ≠ it) (hae : a ≠ e) :
    Turn P w K (.Tuple elts kk tpos) (IteT K a) [e, it] e (fun i h => (∃ old, IsEnum h e it ((i : Nat) : Int) old) ∧ h.IsTupleIter it a i ∧ e ≠ it) where
  mem := by simp
  obj := fun i h st b hb => by
    obtain ⟨⟨old, he⟩, ⟨o, ho, hc, hd⟩, _⟩ := st
    have e' : b = e ∨ b = it := by simpa using hb
    rcases e' with z | z
    · rw [z]; exact ⟨_, he, fun v q => nomatch q⟩
    · rw [z]; exact ⟨o, ho, fun v q => by rw [hd] at q; cases q⟩
  keep := fun i h h' st k => let ⟨⟨old, he⟩, hi, hne⟩ := st; ⟨⟨old, k e (by simp) _ he⟩, hi.at fun o q => k it (by simp) o q, hne⟩
  item := by
    intro X hP hw hK hc i pins s σ H E I hf st hg
    subst hP hw hK
    obtain ⟨⟨old, he⟩, hit, hne⟩ := st
    obtain ⟨xs, x, hq, hx⟩ := hg
    obtain ⟨its, rv, p, hz⟩ := I.tuple hq
    obtain ⟨u, hu, ru⟩ := rv.get hx
    have hel : e < s.heap.objs.size := Heap.lt_size he
    have hil : it < s.heap.objs.size := by obtain ⟨_, q, _⟩ := hit; exact Heap.lt_size q
    have hT : s.heap.IsTuple a its.toArray := p
    have hlt : i < its.toArray.size := by
      rw [List.size_toArray]
      exact (List.getElem?_eq_some_iff.mp hu).1
    refine wpAny_pyNext_enum_itemD (Draws.tuple (A := X.A.in1) (I.ok.hd hc) it a hai its.toArray) he ⟨hit, hT⟩ hlt hne (by simp [hne, Ne.symm hae]) fun y h' tk hy ho st' hTn hsz hk => ?_
    have hyu : y = u := by
      have : its[i]? = some y := by simpa using hy
      rw [hu] at this; cases this; rfl
    subst hyu
    refine ⟨_, rfl, wpAny_letOwnedTupleGo_enum (s := { s with heap := h', toks := tk + 1 }) ho fun h'' he' sb => ?_⟩
    have hT2 : h''.get? s.heap.objs.size = some { cls := .type "tuple", data := .seq #[.int i tk, y] } := (sb.2 _ (Nat.ne_of_gt hel)).trans hTn
    have new : ObjOk X.prog X.w (upd H s.heap.objs.size (.tup [.int (i : Nat), x])) h'' s.heap.objs.size (.tup [.int (i : Nat), x]) :=
      ⟨by show 2 ≤ sizeLine; decide, [.int i tk, y], .cons ⟨_, rfl⟩ (.cons ru .nil), ⟨_, hT2, rfl, _, rfl⟩⟩
    have I1 : Inv X pins σ (upd H s.heap.objs.size (.tup [.int (i : Nat), x])) { s with heap := h'', toks := tk + 1 } :=
      I.turnedNew (ch := [e, it]) (fun b ob hb q => (sb.2 b (fun z => hb (by simp [z]))).trans (hk b ob (fun z => hb (by simp [z])) (fun z => hb (by simp [z])) q)) hf (Nat.le_refl _) new
    refine ⟨.ref s.heap.objs.size, _, I1, rfl, ⟨_, x, rfl, I.hok.fresh (Nat.le_refl _), rfl, fun ys hy => by rw [I.tuple_inj hy hq]; exact hx⟩, ⟨⟨y, ?_⟩, st'.1.at fun o q => (sb.2 it (Ne.symm hne)).trans q, hne⟩, fun b hb => ?_⟩
    · have e1 : ((i + 1 : Nat) : Int) = (i : Int) + 1 := by omega
      rw [e1]; exact he'
    · have hb' : b < s.heap.objs.size := by
        have e' : b = e ∨ b = it := by simpa using hb
        rcases e' with z | z
        · rw [z]; exact hel
        · rw [z]; exact hil
      rw [upd_ne (Nat.ne_of_lt hb')]
      exact (hf b hb).1
  done := by
    intro X hP hw hK hc i pins s σ H E I hf st hg
    subst hP hw hK
    obtain ⟨⟨old, he⟩, hit, hne⟩ := st
    obtain ⟨xs, hq, hx⟩ := hg
    obtain ⟨its, rv, p, hz⟩ := I.tuple hq
    obtain ⟨f0, f1, f2, f3, f4, f5⟩ := hf it (by simp)
    have hl := rv.length
    have hT : s.heap.IsTuple a its.toArray := p
    have hn : i = its.toArray.size := by
      rw [List.size_toArray]
      omega
    subst hn
    exact wpAny_pyNext_enum_endD (Draws.tuple (A := X.A.in1) (I.ok.hd hc) it a hai its.toArray) he ⟨hit, hT⟩ fun h' eb => ⟨rfl, I.turned (t' := s.toks) (fun b o hb q => eb b o hb q) f0 f1 f3 f4 f5⟩
  self := fun A i s Q E st h => let ⟨⟨_, he⟩, _⟩ := st; wpAny_pyIter_enum he h
def iEnumT (K : PySem.W.Frag) (ta : TA) : TI := fun σ H R => ta σ H fun vs H1 => ∃ a xs, vs = [.ref a] ∧ SqT K H1 a xs ∧ R (IteT K a) H1
section
variable {X : Cx} {W : WX} {e a b tg iter : Expr} {f fa fb : DEnv → M D} {pos : Pos}
theorem pi_enumT {ta : TA} {p tpos : Pos} {elts : List Expr} {kk : Nat} (hg : Gl X "enumerate") (hm : X.mg "enumerate" = none) (ha : PA X [e] ta) (hs : starEach [e] X.env = [(false, eval e X.env)] := by rfl) :
    PI X (.Tuple elts kk tpos) (.Call (.Name "enumerate" p) [e] [] pos) (iEnumT X.K ta) := by
  refine ⟨fun pins s σ H R I h => ?_⟩
  refine Call_ (ld_blt I hg hm boot_enumerate (PyProof.Rows.callWith_type1 (thn (ha.run pos pins s σ H _ I h) fun us s1 ⟨vs, H1, I1, r1, q1⟩ => ?_) hs rfl))
  obtain ⟨a, xs, ex, hq, q⟩ := q1
  subst ex
  cases r1 with
  | cons r rr =>
    cases rr
    cases r
    obtain ⟨its, rv, p', hz⟩ := I1.tuple hq
    have hT : s1.heap.IsTuple a its.toArray := p'
    have hal : a < s1.heap.objs.size := by obtain ⟨o, ho, _⟩ := id p'; exact Heap.lt_size ho
    refine call_enum_tuple hT fun h' he hit hsz hk => wpAny_pyIter_enum he ?_
    have I2 : Inv X pins σ H1 { s1 with heap := h' } := I1.kept (t' := s1.toks) hk
    refine ⟨s1.heap.objs.size + 1, [s1.heap.objs.size + 1, s1.heap.objs.size], _, _, H1, rfl, I2, turn_enumT a (s1.heap.objs.size + 1) s1.heap.objs.size (Nat.ne_of_lt hal) (Nat.ne_of_lt (Nat.lt_succ_of_lt hal)), ⟨⟨.none, he⟩, hit, Nat.succ_ne_self _⟩, fun b hb => ?_, q⟩
    have e' : b = s1.heap.objs.size + 1 ∨ b = s1.heap.objs.size := by simpa using hb
    have hle : s1.heap.objs.size ≤ b := by
      rcases e' with z | z
      · rw [z]; exact Nat.le_add_right _ _
      · rw [z]; exact Nat.le_refl _
    exact I1.fpOk hle (I1.hok.fresh hle)
/-- one of two ways to walk -/
theorem PI.or {wi wj : TI} (h : PI X tg iter wi) (k : PI X tg iter wj) : PI X tg iter (fun σ H R => wi σ H R ∨ wj σ H R) :=
  ⟨fun pins s σ H R I q => q.elim (fun q => h.run pins s σ H R I q) fun q => k.run pins s σ H R I q⟩
/-- enumerate of a list, of a tuple -/
def enumA : List D → M (List D)
  | [.list xs] => mok (enumL xs)
  | [.tuple xs] => mok (enumL xs)
  | _ => none
theorem di_enumA {elts : List Expr} {kk : Nat} {tpos p : Pos} {fs : DEnv → M (List D)} (hg : Gl X "enumerate") (hm : X.mg "enumerate" = none) (ha : DA X W .v [a] fs) (hs : starEach [a] X.env = [(false, eval a X.env)] := by rfl) :
    DI X W (.Tuple elts kk tpos) (.Call (.Name "enumerate" p) [a] [] pos) (dItA enumA fs) := by
  obtain ⟨wi, hi, qi⟩ := di_enum (W := W) (elts := elts) (kk := kk) (tpos := tpos) (p := p) (pos := pos) hg hm ha hs
  obtain ⟨len, t, ha, q⟩ := ha
  refine ⟨_, PI.or hi (pi_enumT hg hm ha hs), fun B F H σ env R ok h => ?_⟩
  by_cases hc : ∃ xs, fs env = some (.ok [PyData.tuple xs])
  · obtain ⟨xs, hx⟩ := hc
    right
    refine q B F H σ env _ ok ?_
    have h2 := h.bind
    rw [hx] at h2 ⊢
    intro vs F' H' x r
    have r : RpA X.K X.w F' vs [.tuple xs] := r
    cases r with
    | cons r1 r2 =>
      cases r2
      cases r1 with
      | tup h1 a1 _ =>
        refine ⟨_, _, rfl, sqT_mono x.fh h1, h2 _ F' H' x ⟨fun F2 H2 i d s1 s2 hd => ?_, fun F2 H2 s1 s2 => ?_⟩⟩
        · obtain ⟨z1, e1, rfl⟩ := enum_get hd
          obtain ⟨u1, g1, p1⟩ := a1.get e1
          have q1 := sqT_mono (s1.trans s2) h1
          refine ⟨⟨_, u1, q1, g1⟩, fun x1 H3 y => ?_⟩
          obtain ⟨T, w1, rfl, hT, rfl, y1⟩ := y
          have e3 := (y1 _ q1).symm.trans g1
          cases e3
          have x := Ext.newF (o := .tup [.int (i : Nat), u1]) s2 hT
          exact ⟨_, x, .tup (.inl (.inl upd_same)) (.cons (.int _) (.cons ((p1.mono s1).mono x.ff) .nil)) fun z => by cases z⟩
        · exact ⟨_, sqT_mono (s1.trans s2) h1, by rw [enum_len, a1.length]⟩
  · left
    refine qi B F H σ env R ok ?_
    have e : dItA enumD fs env = dItA enumA fs env := by
      unfold dItA
      cases hf : fs env with
      | none => rfl
      | some r =>
        cases r with
        | error c => rfl
        | ok ds =>
          show enumD ds = enumA ds
          match ds, hf with
          | [], _ => rfl
          | .none :: _, _ => rfl
          | .bool _ :: _, _ => rfl
          | .int _ :: _, _ => rfl
          | .str _ :: _, _ => rfl
          | .dict _ :: _, _ => rfl
          | [.list _], _ => rfl
          | .list _ :: _ :: _, _ => rfl
          | .tuple _ :: _ :: _, _ => rfl
          | [.tuple xs], hf => exact absurd ⟨xs, hf⟩ hc
    rw [e]
    exact h
/-- for x in a list, a tuple -/
def asLT : D → M (List D)
  | .list ds => mok ds
  | .tuple ds => mok ds
  | _ => none
theorem di_seq (he : DE X W .v e f) : DI X W tg e (dIt asLT f) := by
  obtain ⟨wi, hi, qi⟩ := di_list (tg := tg) he
  obtain ⟨wj, hj, qj⟩ := di_tup (tg := tg) he
  refine ⟨_, PI.or hi hj, fun B F H σ env R ok h => ?_⟩
  by_cases hc : ∃ xs, f env = some (.ok (PyData.tuple xs))
  · obtain ⟨xs, hx⟩ := hc
    right
    refine qj B F H σ env R ok ?_
    unfold dIt at h ⊢
    rw [hx] at h ⊢
    exact h
  · left
    refine qi B F H σ env R ok ?_
    have e : dIt asSeq f env = dIt asLT f env := by
      unfold dIt
      cases hf : f env with
      | none => rfl
      | some r =>
        cases r with
        | error c => rfl
        | ok d =>
          show asSeq d = asLT d
          cases d with
          | tuple xs => exact absurd ⟨xs, hf⟩ hc
          | _ => rfl
    rw [e]
    exact h
/-- -n -/
def negD : D → M D
  | .int i => mok (.int (-i))
  | _ => none
theorem de_neg (ha : DE X W .v a fa) : DE X W .v (.UnaryOp .USub a pos) (d1 negD fa) := by
  obtain ⟨ta, ha, qa⟩ := ha
  refine ⟨_, pe_un un_neg ha, fun B F H σ env Q ok h => qa B F H σ env _ ok (h.bind.mono (fun d k v F' H' x r => ?_) fun c k => k)⟩
  have r : Rp X.K X.w F' v d := r
  cases r with
  | int i => exact ⟨i, rfl, k _ F' H' x (.int _)⟩
  | _ => exact k.elim
/-! ### in-place operators of numbers and texts -/
def iaddD : D → D → M D
  | .int i, .int j => mok (.int (i + j))
  | .str x, .str y => if x.length + y.length ≤ sizeLine then mok (.str (x ++ y)) else none
  | _, _ => none
theorem iaddD_ne (x y : D) (c : Value) : iaddD x y ≠ some (.error c) := by
  unfold iaddD
  split <;> first | (intro h; cases h; done) | (split <;> intro h <;> cases h)
theorem iop_addV : OpR X (inplaceOp .Add) (rD X .v iaddD) := by
  intro pins s σ H x y v u Q I rx ry h
  obtain ⟨F, d, e, sm, sx, sy, h⟩ := h
  unfold iaddD at h
  split at h
  · cases sx.int; cases sy.int
    exact iop_add pins s σ H _ _ v u Q I rx ry ⟨_, _, rfl, rfl, h _ F H (.refl sm) (.int _)⟩
  · split at h
    · rename_i hz
      cases sx.str; cases sy.str
      exact iop_add_str pins s σ H _ _ v u Q I rx ry ⟨_, _, rfl, rfl, hz, h _ F H (.refl sm) (.str _)⟩
    · exact h.elim
  · exact h.elim
theorem iop_subV : OpR X (inplaceOp .Sub) (rD X .v subD) := op_int2 (fun _ _ _ => .int _) (fun _ _ _ => trivial) (rI_of iop_sub)
theorem iop_mulV : OpR X (inplaceOp .Mult) (rD X .v mulD) := op_int2 (fun _ _ _ => .int _) (fun i j h => cmul_of h) iop_mul
end
end DL

/-! The data layer, part 9: defs with defaults, a call with one keyword. -/
namespace DL
open PySem PySem.Spec PyProof.Rows L2
section
variable {P : Program} {w : World} {K : PySem.W.Frag} {mg : Str → Option Value} {base : Heap}
/-- a def with defaults whose body is g -/
theorem fn_okD {x qual : Str} {st : Stmt} {fn : Addr} {fd : FuncData} {N ps : List Str} {k n : Nat} {g : DEnv → Option Out} {dvs : List V} {kws : List (Str × V)} (Fn : FunD K x qual (defArgs st) (defBody st) (defScope st) dvs kws fn fd) (S : FnScope N ps (defScope st)) (hn : ps.length = n)
    (hb : ∀ (cdv : Value) (A : Around) (outer : List Env) (s : Shared) (H : Hp) (E : XK), Room k (A.deeper (envOfC qual (defScope st) s.heap.objs.size fn cdv)) →
      DSs (cxOf (L2.CX P w) P w K mg base N qual (defScope st) fn cdv A outer s H E) (fun cls d _ H => E cls d H) (defBody st) g) : FnOk P w K mg base (L2.CX P w) (k + 1) fn fd ps (spD K w n (runD N.length g)) := by
  refine Fn.ok S (fun vs H Q E h => h.1.trans hn.symm) (fun cdv A outer s H vs Q E hr h => ?_)
  obtain ⟨hl, F, ds, sm, ra, h⟩ := h
  obtain ⟨t, ht, q⟩ := hb cdv A outer s H E hr
  refine ⟨t, ht, q ⟨F, H, none⟩ F H (L2.start N vs) (startD N.length ds) _ (start_ok N sm ra) ?_⟩
  unfold runD at h
  cases hg : g (startD N.length ds) with
  | none => rw [hg] at h; exact h.elim
  | some o =>
    rw [hg] at h
    cases o with
    | nx e => exact fun F' H' σ' ok => h F' H' .non ok.ext .non
    | rt o d => exact fun F' H' v x r => h F' H' v x r
    | bk e => exact h.elim
    | ct e => exact h.elim
    | xc c e => exact fun F' H' σ' ok => h F' H' ok.ext
/-- f(e, .., k = v): the keyword is the last parameter -/
theorem kbn_last {x qual : Str} {params : Arguments} {body : List Stmt} {scope : Scope} {dvs : List V} {kws : List (Str × V)} {fn : Addr} {fd : FuncData} {ps : List Str} {nm : Str} (F : FunD K x qual params body scope dvs kws fn fd) (n : Nat) (hd : dvs ≠ [])
    (h : ∀ (T : Addr) (kV doc pm : Value) (an : Option Addr) (cdv ct : Value) (us its : List Value) (u : Value), us.length = n → its.length = dvs.length →
      ∃ k, bindArgs (PySem.W.fnOf x qual params body scope (.ref T) kV doc pm an cdv ct) ⟨us, [(nm, u)]⟩ = seqItems? (.ref T) >>= k ∧ k (some its.toArray) = pure (ps.zip (us ++ [u]))) :
    KBn K fd ps n [nm] (fun us ws => us ++ ws) (fun vs zs => vs ++ zs) := by
  obtain ⟨oc, od, dV, kV, doc, pm, an, cdv, ct, osl, rfl, lk, hcd, hD, hK⟩ := F.ex
  rcases hD with ⟨e, _⟩ | ⟨_, T, o, its, m, rfl, lT, oT, rT⟩
  · exact absurd e hd
  · refine ⟨fun s us ws X l1 l2 => ?_, fun r1 r2 => r1.append r2⟩
    match ws, l2 with
    | [u], _ =>
      obtain ⟨k, e1, e2⟩ := h T kV doc pm an cdv ct us its u l1 rT.length.symm
      refine BindsTo.of_looks fun M => ?_
      show PySem.W.Looks M s.heap (bindArgs (PySem.W.fnOf x qual params body scope (.ref T) kV doc pm an cdv ct) ⟨us, [(nm, u)]⟩) _
      rw [e1]
      exact looks_items X lT oT (.of_pure e2)
end
section
variable {X : Cx} {W : WX} {e a b : Expr} {f fa fb : DEnv → M D} {pos : Pos} {k n m : Nat} {fn : Addr} {fd : FuncData} {ps : List Str} {G : List D → Option Res} {x nm : Str} {pc kp : Pos} {es : List Expr} {fs : DEnv → M (List D)}
def dFnK (G : List D → Option Res) (fs : DEnv → M (List D)) (f : DEnv → M D) (env : DEnv) : M D := mbind (fs env) fun ds => mbind (f env) fun d => match G (ds ++ [d]) with
  | some (.ret _ z) => mok z
  | _ => none
theorem de_callK (F : FnOk X.prog X.w X.K X.mg X.base (L2.CX X.prog X.w) k fn fd ps (spD X.K X.w n G)) (hr : Room k X.A) (hg : Gl X x) (hm : X.mg x = some (.ref fn)) (hk : PySem.W.keepIn X.K (.ref fn) = true) (hb : KBn X.K fd ps m [nm] (fun us ws => us ++ ws) (fun vs zs => vs ++ zs))
    (ha : DA X W .v (e :: es) fs) (hkw : DE X W .v b fb) (hm2 : (e :: es).length = m := by rfl) (hn : m + 1 = n := by rfl) (hall : (backToKw pos (keywordEach [⟨some nm, b, kp⟩] X.env)).all (·.1.isSome) = true := by rfl) (hks : (backToKw pos (keywordEach [⟨some nm, b, kp⟩] X.env)).filterMap (·.1) = [nm] := by rfl)
    (hdb : (x == ("__debug__" : Str)) = false := by decide) (he : starEach (e :: es) X.env = (false, eval e X.env) :: starEach es X.env := by rfl)
    (hpl : ((backTo pos (starEach (e :: es) X.env)).any (·.1) || (backToKw pos (keywordEach [⟨some nm, b, kp⟩] X.env)).any (·.1.isNone)) = false := by rfl) :
    DE X W .v (.Call (.Name x pc) (e :: es) [⟨some nm, b, kp⟩] pos) (dFnK G fs fb) := by
  obtain ⟨len, t, ha, qa⟩ := ha
  obtain ⟨tb, hkw, qb⟩ := hkw
  refine ⟨_, pe_callN (E := E0) F hr hg hm hk hb passL ha (pk_cons hkw pk_nil) hall hks hdb he hpl, fun B F0 H σ env Q ok h => qa B F0 H σ env _ ok (h.bind.monoE (fun ds hds k vs F1 H1 e1 rs => ?_) fun c _ k => k)⟩
  refine qb B F1 H1 σ env _ (ok.mono e1) (k.bind.mono (fun d k u F2 H2 e2 r2 => ?_) fun c k F' H' e => k F' H' (e1.trans e))
  have hl : vs.length = m := ((RMA.length rs).trans (len env ds hds)).trans hm2
  refine ⟨hl, rfl, by rw [List.length_append, hl]; exact hn, F2, ds ++ [d], e2.fh, RpA.append (RpA.mono e2.ff rs) (.cons r2 .nil), ?_⟩
  split at k
  · rename_i o z hG
    rw [hG]
    intro F3 H3 v x3 r3
    obtain ⟨F4, x4, r4⟩ := rm_freeze x3 r3
    exact k v F4 H3 ((e1.trans e2).trans x4) r4
  · exact k.elim
end
end DL

/-! The data layer: sorted. -/
namespace DL
open PySem PySem.Spec PyProof.Rows L2
/-! ### the order -/
def alikeL (xs : List D) : Bool := xs.all fun x => xs.all fun y => PySem.W.alike x y
def tupC : D → Bool
  | .tuple (_ :: _) => true
  | _ => false
def plainS : D → Bool
  | .tuple _ => false
  | .none => false
  | _ => true
/-- what can be sorted here -/
def srtOk (xs : List D) : Bool := alikeL xs && (xs.all tupC || xs.all plainS || decide (xs.length ≤ 1)) && xs.all eqOk
def srt (xs : List D) : List D := xs.mergeSort (PySem.W.dataLe false id)
theorem srtOk_alike {xs : List D} (h : srtOk xs = true) : PySem.W.AllAlike xs := by
  unfold srtOk alikeL at h
  simp only [Bool.and_eq_true, List.all_eq_true] at h
  exact fun d hd d' hd' => h.1.1 d hd d' hd'
theorem srtOk_eq {xs : List D} (h : srtOk xs = true) : ∀ d ∈ xs, eqOk d = true := by
  unfold srtOk at h
  simp only [Bool.and_eq_true, List.all_eq_true] at h
  exact h.2
theorem alike_none {x y : D} (h : PySem.W.alike x y = true) : x = .none → y = .none := by
  rintro rfl
  cases y <;> simp [PySem.W.alike] at h ⊢
theorem SortsAt.short {prog : Program} {w : World} {A : Around} {s : Shared} {vs : List Value} {ds : List PyData} (e : PySem.W.EachIs (fun v d => ∃ as, Reads s.heap v d as) vs ds) (hal : PySem.W.AllAlike ds) (hn : ∀ d ∈ ds, d ≠ .none) (h1 : ds.length ≤ 1) (hu : ∀ d, d ∈ ds → A.units + d.depth < cLine) :
    PySem.W.SortsAt prog w A s (PySem.W.dataKind s.heap ds) vs := by
  have room : ∀ {d d' : PyData}, d ∈ ds → A.units + min d.depth d'.depth < cLine := fun {d d'} hd => Nat.lt_of_le_of_lt (Nat.add_le_add_left (Nat.min_le_left _ _) _) (hu d hd)
  refine ⟨fun v hv => ?_, general', ?_, fun h2 => ?_⟩
  · obtain ⟨d, hd, as, r⟩ := e.left v hv
    exact ⟨_, PySem.W.dataKind_some hal hd r⟩
  · intro E x y a b Q ha hb hq
    obtain ⟨d, as, hd, ra, rfl⟩ := PySem.W.dataKind_inv ha
    obtain ⟨d', as', hd', rb, rfl⟩ := PySem.W.dataKind_inv hb
    show wpAny _ _ (oneLt' false x y) _ _ _
    exact PySem.W.oneLt_alike (fun h => by cases h) ra rb (hal d hd d' hd') (hn d hd) (room hd) hq
  · have := e.length
    omega
theorem SortsAt.ok {prog : Program} {w : World} {A : Around} {s : Shared} {vs : List Value} {ds : List PyData} (e : PySem.W.EachIs (fun v d => ∃ as, Reads s.heap v d as) vs ds) (h : srtOk ds = true) (hu : A.units + 60 < cLine) (h1 : ds.length ≤ 1 → ∀ d ∈ ds, d ≠ .none) :
    PySem.W.SortsAt prog w A s (PySem.W.dataKind s.heap ds) vs := by
  have hal := srtOk_alike h
  have he := srtOk_eq h
  have hu2 : ∀ d, d ∈ ds → A.units + d.depth < cLine := fun d hd => by
    have := he d hd
    unfold eqOk at this
    simp only [Bool.and_eq_true, decide_eq_true_eq] at this
    omega
  unfold srtOk at h
  simp only [Bool.and_eq_true, Bool.or_eq_true, decide_eq_true_eq] at h
  rcases h.1.2 with (h | h) | h
  · refine PySem.W.SortsAt.data e hal (.inl fun d hd => ?_) hu2
    have := List.all_eq_true.mp h d hd
    unfold tupC at this
    split at this
    · exact ⟨_, _, rfl⟩
    · cases this
  · refine PySem.W.SortsAt.data e hal (.inr fun d hd => ?_) hu2
    have := List.all_eq_true.mp h d hd
    unfold plainS at this
    constructor
    · rintro rfl; cases this
    · rintro xs rfl; cases this
  · exact SortsAt.short e hal (h1 h) h hu2
section
variable {prog : Program} {w : World} {A : Around} {E : Value → Shared → Prop} {s : Shared}
/-- what is known of the values stays with the items -/
theorem sort_each {h' : Heap} {β : Type} {R : Value → β → Prop} {enc : β → PyData} {vs : List Value} {bs : List β} (e : PySem.W.EachIs R vs bs) (er : PySem.W.EachIs (fun v b => ∃ as, Reads h' v (enc b) as) vs bs) (hal : PySem.W.AllAlike (bs.map enc)) :
    PySem.W.EachIs R (PySem.W.sortVals (PySem.W.dataKind h' (bs.map enc)) false vs vs) (bs.mergeSort (PySem.W.dataLe false enc)) := PySem.W.sortVals_data false e er hal
/-- the new list that a collect makes, of a list or a tuple: the heap grows -/
theorem gather_seq {P : List Value → Shared → Prop} {T : String} {l : Addr} {ob : Obj} {n : Nat} {xs : Array Value} (hT : T = "list" ∨ T = "tuple") (ho : s.heap.get? l = some ob) (hc : ob.cls = .type T) (hd : ob.data = .seq xs n) (hz : xs.size ≤ sizeLine)
    (q : ∀ h1 : Heap, (∀ c z, s.heap.get? c = some z → h1.get? c = some z) → s.heap.objs.size ≤ h1.objs.size → P xs.toList { s with heap := h1 }) : wpAny (model prog w) A (collect (.ref l)) P E s := by
  let Ob : Obj := { cls := .type "list", data := .seq ([] : List Value).toArray }
  let B : Heap := (s.heap.push Ob).update s.heap.objs.size (Obj.mapSeq (· ++ xs))
  have h0 : (s.heap.push Ob).get? s.heap.objs.size = some { cls := .type "list", data := .seq #[] 0 } := Heap.get?_push_size _ rfl
  have hB := Heap.get?_update_self (Obj.mapSeq (· ++ xs)) h0 rfl
  have hsz : B.objs.size = s.heap.objs.size + 1 := by show ((s.heap.push Ob).update _ _).objs.size = _; rw [Heap.size_update, size_push']
  have ends : ∀ k : Value → Sem (List Value), (k = fun v => match v with | .ref a => (load a >>= fun z => match z.data with | .seq ys _ => pure ys.toList | _ => unsupported "internal:collect") | _ => unsupported "internal:collect") →
      wpAny (model prog w) A (k (.ref s.heap.objs.size)) P E { s with heap := B } := by
    rintro _ rfl
    refine wpAny_bind (wpAny_load hB (wpAny_pure ?_))
    show P ((#[] : Array Value) ++ xs).toList _
    rw [show ((#[] : Array Value) ++ xs).toList = xs.toList by simp]
    refine q B (fun c z hz => ?_) (by omega)
    exact (Heap.get?_update_other _ _ (Nat.ne_of_gt (Heap.lt_size hz))).trans (Heap.get?_push_of_some _ hz)
  unfold collect
  refine wpAny_bind (wpAny_runValue (codeAny_builtin PySem.F.entry_proto_collect ?_))
  rw [Around.under_plainId PySem.F.plain_proto_collect _]
  refine wpAny_bind (m := newList []) (wpAny_newObj_type (wpAny_pure ⟨plainId_quiet PySem.F.plain_list_iadd _, codeAny_builtin PySem.F.entry_list_iadd ?_⟩))
  rw [Around.under_plainId PySem.F.plain_list_iadd _]
  have key := wpAny_extend_seq (prog := prog) (w := w) (hsz := hz) (A := A) (R := fun r t => r = .ok (.ret (.ref s.heap.objs.size)) ∧ t = { s with heap := B }) (s := { s with heap := s.heap.push Ob }) s.heap.objs.size l (.ref s.heap.objs.size) 0 hT h0 (Heap.get?_push_of_some _ ho) hc hd ⟨rfl, rfl⟩
  refine wpAny_mono key (fun f t x => ?_) (fun c t x => absurd x.1 (by simp))
  match f, x with
  | .done f, x =>
    obtain ⟨e, rfl⟩ := x
    cases e
    exact ends _ rfl
  | .again c, x =>
    refine ⟨x.1, codeAny_mono x.2 fun r t y => ?_⟩
    obtain ⟨rfl, rfl⟩ := y
    exact ends _ rfl
/-- sorted(xs), xs a list or a tuple -/
theorem sorted_seq {β : Type} {T : String} {l : Addr} {o : Obj} {n : Nat} {vs : List Value} {bs : List β} {enc : β → PyData} {R : Value → β → Prop} {Q : Value → Shared → Prop} (hT : T = "list" ∨ T = "tuple") (ho : s.heap.get? l = some o) (hc : o.cls = .type T) (hd : o.data = .seq vs.toArray n)
    (e : PySem.W.EachIs R vs bs) (er : PySem.W.EachIs (fun v b => ∃ as, Reads s.heap v (enc b) as) vs bs) (hs : srtOk (bs.map enc) = true) (h1 : bs.length ≤ 1 → ∀ b ∈ bs, enc b ≠ .none) (hL : bs.length ≤ sizeLine) (hu : A.units + 64 < cLine)
    (h : ∀ (h' : Heap) (a : Addr) (out : List Value) (ep : Nat), (∀ b o, s.heap.get? b = some o → h'.get? b = some o) → s.heap.objs.size ≤ a → h'.get? a = some (seqObj "list" out.toArray ep) → PySem.W.EachIs R out (bs.mergeSort (PySem.W.dataLe false enc)) → Q (.ref a) { s with heap := h' }) :
    wpAny (model prog w) A (call (.builtin "sorted") [.ref l]) Q E s := by
  have hlen : vs.length ≤ sizeLine := by rw [e.length]; exact hL
  refine call_function_entry_kw kind_sorted plain_sorted entry_sorted (args_sorted1 _) ?_
  unfold Builtin.«sorted»
  refine wpAny_bind (m := checkCount "sorted" 1 1 _) (wpAny_pure ?_)
  refine wpAny_bind (gather_seq hT ho hc hd (by rw [List.size_toArray]; exact hlen) fun h1' hk hsize => ?_)
  refine wpAny_bind (wpAny_newList ?_ hlen)
  have hat : (h1'.push (seqObj "list" vs.toArray 0)).get? h1'.objs.size = some (seqObj "list" vs.toArray 0) := Heap.get?_push_size _ rfl
  have hk2 : ∀ b o, s.heap.get? b = some o → (h1'.push (seqObj "list" vs.toArray 0)).get? b = some o := fun b o e => Heap.get?_push_of_some _ (hk b o e)
  have hne : ∀ b o, s.heap.get? b = some o → b ≠ h1'.objs.size := fun b o e => Nat.ne_of_lt (Heap.lt_size (hk b o e))
  refine wpAny_bind (wpAny_holding (wpAny_call_entry_kw slot_list_sort ⟨_, hat, rfl⟩ entry_list_sort ?body (args_list_sort _)))
  case body =>
    have er' : PySem.W.EachIs (fun v b => ∃ as, Reads (PySem.W.sortingHeap (h1'.push (seqObj "list" vs.toArray 0)) h1'.objs.size vs) v (enc b) as) vs bs := er.mono fun _ _ ⟨as, r⟩ => ⟨as, PyProof.Rows.Reads.keeps (fun b o e => PySem.W.sortingHeap_old (hne b o e) (hk2 b o e)) r⟩
    refine wpAny_mono (PySem.W.list_sort_vals (P := fun f s' => f = .done (.ret .none) ∧ Q (.ref h1'.objs.size) s') (s := { s with heap := h1'.push (seqObj "list" vs.toArray 0) }) hat
      (SortsAt.ok (s := { s with heap := PySem.W.sortingHeap (h1'.push (seqObj "list" vs.toArray 0)) h1'.objs.size vs }) (PySem.W.each_map (R := fun v d => ∃ as, Reads (PySem.W.sortingHeap (h1'.push (seqObj "list" vs.toArray 0)) h1'.objs.size vs) v d as) enc er') hs ?_ ?_) hlen ⟨rfl, ?_⟩) (fun f s' hf => ?_) fun _ _ e => e
    · show A.units + 1 + 1 + 60 < cLine
      omega
    · intro hl d hd
      rw [List.length_map] at hl
      obtain ⟨b, hb, rfl⟩ := List.mem_map.mp hd
      exact h1 hl b hb
    · obtain ⟨ep, he⟩ := sortedHeap_at (vs := vs) (out := (PySem.W.sortVals (PySem.W.dataKind (PySem.W.sortingHeap (h1'.push (seqObj "list" vs.toArray 0)) h1'.objs.size vs) (bs.map enc)) false vs vs).toArray) hat
      refine h _ _ _ ep (fun b o e => ?_) ?_ he (sort_each e er' (srtOk_alike hs))
      · rw [sortedHeap_old (hne b o e) (Heap.lt_size (hk2 b o e))]
        exact hk2 b o e
      · exact hsize
    · obtain ⟨rfl, hq⟩ := hf
      exact ⟨_, rfl, wpAny_pure ⟨_, rfl, hq⟩⟩
end
end DL
namespace DL
open PySem PySem.Spec PyProof.Rows L2
def notNone : D → Bool
  | .none => false
  | _ => true
def sortL (xs : List D) : M D := if srtOk xs = true ∧ xs.all notNone = true then mok (.list (srt xs)) else none
/-- sorted of a list or a tuple -/
def sortD : List D → M D
  | [.list xs] => sortL xs
  | [.tuple xs] => sortL xs
  | _ => none
theorem sortL_ne (xs : List D) (c : Value) : sortL xs ≠ some (.error c) := by
  unfold sortL
  split <;> intro h <;> cases h
theorem sortD_ne (ds : List D) (c : Value) : sortD ds ≠ some (.error c) := by
  unfold sortD
  split <;> first | exact sortL_ne _ _ | (intro h; cases h)
section
variable {X : Cx}
theorem each_of {K : PySem.W.Frag} {w : World} {F : Hp} : ∀ {vs : List V} {us : List Value} {ds : List D}, Vals vs us → RpA K w F vs ds → PySem.W.EachIs (fun (u : Value) (b : V × D) => RelV b.1 u ∧ Rp K w F b.1 b.2) us (vs.zip ds)
  | _, _, _, .nil, .nil => .nil
  | _, _, _, .cons r t, .cons p q => .cons ⟨r, p⟩ (each_of t q)
theorem each_to {K : PySem.W.Frag} {w : World} {F : Hp} : ∀ {us : List Value} {bs : List (V × D)}, PySem.W.EachIs (fun (u : Value) (b : V × D) => RelV b.1 u ∧ Rp K w F b.1 b.2) us bs → Vals (bs.map (·.1)) us ∧ RpA K w F (bs.map (·.1)) (bs.map (·.2))
  | _, _, .nil => ⟨.nil, .nil⟩
  | _, _, .cons h t => ⟨.cons h.1 (each_to t).1, .cons h.2 (each_to t).2⟩
theorem zip_snd {α β : Type} : ∀ {xs : List α} {ys : List β}, xs.length = ys.length → (xs.zip ys).map (·.2) = ys
  | [], [], _ => rfl
  | [], _ :: _, h => by simp at h
  | _ :: _, [], h => by simp at h
  | x :: xs, y :: ys, h => by
    show y :: (xs.zip ys).map (·.2) = y :: ys
    rw [zip_snd (by simpa using h)]
theorem each_and {α β : Type} {R S : α → β → Prop} : ∀ {as : List α} {bs : List β}, PySem.W.EachIs R as bs → (∀ a b, b ∈ bs → R a b → S a b) → PySem.W.EachIs S as bs
  | _, _, .nil, _ => .nil
  | _, _, .cons h t, k => .cons (k _ _ List.mem_cons_self h) (each_and t fun a b hb => k a b (List.mem_cons_of_mem _ hb))
theorem srt_map (bs : List (V × D)) : (bs.mergeSort (PySem.W.dataLe false fun b => b.2)).map (·.2) = srt (bs.map (·.2)) := by
  unfold srt
  exact List.map_mergeSort fun a _ b _ => rfl
/-- the call, by the object that stands there -/
theorem sorted_at {pins : List (Addr × Obj)} {s : Shared} {σ : L2.St} {H F : Hp} {a : Addr} {T : String} {o : Obj} {n : Nat} {vs : List V} {us : List Value} {ds : List D} {Q : VK} (I : Inv X pins σ H s) (sm : Same F H) (hT : T = "list" ∨ T = "tuple") (ho : s.heap.get? a = some o) (hc : o.cls = .type T) (hd : o.data = .seq us.toArray n)
    (rv : Vals vs us) (ra : RpA X.K X.w F vs ds) (hz : vs.length ≤ sizeLine) (hu : X.A.units + 64 < cLine) (hs : srtOk ds = true) (hn : ds.all notNone = true)
    (h : ∀ v F' H', Ext F H F' H' → RM X.K X.w H F' H' .o v (.list (srt ds)) → Q v H') : wpAny (model X.prog X.w) X.A (call (.builtin "sorted") [.ref a]) (EP X pins σ Q) X.xe s := by
  have l1 := ra.length
  have e0 := each_of rv ra
  have em : (vs.zip ds).map (·.2) = ds := zip_snd l1
  have er : PySem.W.EachIs (fun u (b : V × D) => ∃ as, Reads s.heap u b.2 as) us (vs.zip ds) := each_and e0 fun u b hb hR => by
    have hb2 : b.2 ∈ ds := by rw [← em]; exact List.mem_map.mpr ⟨b, hb, rfl⟩
    have := srtOk_eq hs _ hb2
    unfold eqOk at this
    simp only [Bool.and_eq_true] at this
    exact Rp.reads I b.2 b.1 u this.1 (hR.2.mono sm) hR.1
  refine sorted_seq (enc := fun b : V × D => b.2) hT ho hc hd e0 er (by rw [em]; exact hs) (fun _ b hb => ?_) (by rw [List.length_zip, ← l1, Nat.min_self]; exact hz) hu fun h' p out ep hk hp he hR => ?_
  · have hb2 : b.2 ∈ ds := by rw [← em]; exact List.mem_map.mpr ⟨b, hb, rfl⟩
    have := List.all_eq_true.mp hn _ hb2
    intro hz
    rw [hz] at this
    cases this
  · obtain ⟨rv2, ra2⟩ := each_to hR
    rw [srt_map, em] at ra2
    have hp0 := I.hok.fresh hp
    have hl : (((vs.zip ds).mergeSort (PySem.W.dataLe false fun b => b.2)).map (·.1)).length ≤ sizeLine := by
      rw [List.length_map, List.length_mergeSort, List.length_zip, ← l1, Nat.min_self]
      exact hz
    have I2 := I.laid (h' := h') (t' := s.toks) (o := .lst (((vs.zip ds).mergeSort (PySem.W.dataLe false fun b => b.2)).map (·.1))) hk hp ⟨hl, out, ep, rv2, he⟩
    refine ⟨.ref p, _, I2, rfl, h _ F _ (Ext.newO sm hp0) ?_⟩
    exact ⟨⟨p, rfl, .inl ⟨_, _, rfl, upd_same, ra2⟩⟩, p, rfl, hp0, sm.free hp0⟩
theorem call_sortO (hu : X.A.units + 64 < cLine) : CallR X (.builtin "sorted") (rC X .o sortD) := by
  intro pins s σ H xs us Q I r h
  obtain ⟨F, ds, sm, sx, h⟩ := h
  unfold sortD at h
  split at h
  · obtain ⟨v, rfl, k⟩ := pair1 sx
    obtain ⟨a, vs, rfl, ha, ra⟩ := k.list sm
    obtain rfl := Vals.ref1 r
    obtain ⟨its, rv, ⟨o, n, e, hc, _, hd⟩, hz⟩ := I.list ha
    unfold sortL at h
    split at h
    · rename_i hk
      exact sorted_at I sm (.inl rfl) e hc hd rv ra hz hu hk.1 hk.2 h
    · exact h.elim
  · obtain ⟨v, rfl, k⟩ := pair1 sx
    obtain ⟨a, vs, rfl, ha, ra⟩ := k.tuple sm
    obtain rfl := Vals.ref1 r
    obtain ⟨its, rv, ⟨o, e, hc, n, hd⟩, hz⟩ := I.tuple ha
    unfold sortL at h
    split at h
    · rename_i hk
      exact sorted_at I sm (.inr rfl) e hc hd rv ra hz hu hk.1 hk.2 h
    · exact h.elim
  · exact h.elim
end
end DL
namespace DL
open PySem PySem.Spec PyProof.Rows L2
/-! ### sep.join(xs) -/
def strsOf : List D → Option (List Str)
  | [] => some []
  | .str x :: r => (strsOf r).map (x :: ·)
  | _ :: _ => none
def joinS (a : Str) : D → M D
  | .list xs => match strsOf xs with
    | some ys => if (ys.map (·.length)).sum + ys.length * a.length ≤ 16777216 then mok (.str (Txt.join a ys)) else none
    | none => none
  | _ => none
def dJoin (fa fb : DEnv → M D) (env : DEnv) : M D := mbind (fa env) fun x => match x with
  | .str a => mbind (fb env) (joinS a)
  | _ => none
theorem strs_rp {K : PySem.W.Frag} {w : World} {F : Hp} : ∀ {vs : List V} {ds : List D} {ys : List Str}, RpA K w F vs ds → strsOf ds = some ys → vs = ys.map V.str
  | _, _, ys, .nil, h => by
    cases h
    rfl
  | _, _, ys, .cons (d := d) r t, h => by
    cases d with
    | str x =>
      unfold strsOf at h
      cases r
      obtain ⟨zs, h1, rfl⟩ := Option.map_eq_some_iff.mp h
      rw [strs_rp t h1]
      rfl
    | _ => simp [strsOf] at h
section
variable {X : Cx} {W : WX} {a b : Expr} {fa fb : DEnv → M D} {apos cpos : Pos}
theorem de_join (ho : DE X W .v a fa) (hx : DE X W .s b fb)
    (hbase : attributeBase a "join" X.env (eval a X.env) = eval a X.env := by rfl)
    (hfew : ((backTo cpos (starEach [b] X.env)).all (fun x => !x.1) && (backToKw cpos (keywordEach [] X.env)).all (fun x => x.1.isSome)
      && decide ([b].length + ([] : List Keyword).length + (if ([] : List Keyword).isEmpty then 0 else 1) < 30)) = true := by rfl)
    (hline : (apos.endLine == cpos.line) = true := by rfl) (hs : starEach [b] X.env = (false, eval b X.env) :: starEach [] X.env := by rfl) (hplain : (backTo cpos (starEach [] X.env)).any (·.1) = false := by rfl) :
    DE X W .v (.Call (.Attribute a "join" apos) [b] [] cpos) (dJoin fa fb) := by
  obtain ⟨ta, ho, qa⟩ := ho
  obtain ⟨tb, hx, qb⟩ := hx
  refine ⟨_, pe_bm PySem.F.plainAttrs_str PySem.F.slot_str_join PySem.F.type_str_join mt_join ho (pa_cons hx pa_nil hs) hbase hfew hline hs hplain, fun B F H σ env Q ok h => qa B F H σ env _ ok (h.bind.mono (fun d k v F1 H1 x1 r1 => ?_) fun c k => k)⟩
  have r1 : Rp X.K X.w F1 v d := r1
  cases d with
  | str s =>
    cases r1
    refine ⟨rfl, qb B F1 H1 σ env _ (ok.mono x1) (k.bind.mono (fun e k u F2 H2 x2 r2 => ?_) fun c k F' H' e => k F' H' (x1.trans e))⟩
    have r2 : Sh X.K X.w F2 H2 u e := r2
    unfold joinS at k
    split at k
    · split at k
      · rename_i ys hy
        split at k
        · rename_i hz
          obtain ⟨p, vs, rfl, hp, ra⟩ := r2.list x2.fh
          have := strs_rp ra hy
          subst this
          exact ⟨_, p, ys, rfl, rfl, .inl hp, hz, k _ F2 H2 (x1.trans x2) (.str _)⟩
        · exact k.elim
      · exact k.elim
    · exact k.elim
  | _ => exact k.elim
end
end DL

/-! The data layer: dicts whose keys are tuples. -/
namespace DL
open PySem PySem.Spec PyProof.Rows L2
/-! ### keys -/
mutual
/-- the datum as a key -/
def toKey : D → Option NestedKey
  | .none => some .none
  | .int i => some (.num i)
  | .str x => some (.text x)
  | .tuple xs => (toKeys xs).map .tup
  | .bool _ => none
  | .list _ => none
  | .dict _ => none
def toKeys : List D → Option (List NestedKey)
  | [] => some []
  | x :: xs => (toKey x).bind fun k => (toKeys xs).map (k :: ·)
end
mutual
theorem toKey_data : ∀ (d : D) (k : NestedKey), toKey d = some k → k.data = d
  | .none, k, h => by cases h; rfl
  | .int i, k, h => by cases h; rfl
  | .str x, k, h => by cases h; rfl
  | .tuple xs, k, h => by
    rw [toKey] at h
    obtain ⟨ks, h1, rfl⟩ := Option.map_eq_some_iff.mp h
    rw [NestedKey.data, toKeys_data xs ks h1]
  | .bool _, k, h => by cases h
  | .list _, k, h => by cases h
  | .dict _, k, h => by cases h
theorem toKeys_data : ∀ (xs : List D) (ks : List NestedKey), toKeys xs = some ks → NestedKey.datas ks = xs
  | [], ks, h => by cases h; rfl
  | x :: xs, ks, h => by
    rw [toKeys] at h
    obtain ⟨k, h1, h2⟩ := Option.bind_eq_some_iff.mp h
    obtain ⟨l, h3, rfl⟩ := Option.map_eq_some_iff.mp h2
    rw [NestedKey.datas, toKey_data x k h1, toKeys_data xs l h3]
end
mutual
theorem data_toKey : ∀ k : NestedKey, toKey k.data = some k
  | .none => rfl
  | .num i => rfl
  | .text x => rfl
  | .tup ks => by rw [NestedKey.data, toKey, datas_toKeys ks]; rfl
theorem datas_toKeys : ∀ ks : List NestedKey, toKeys (NestedKey.datas ks) = some ks
  | [] => rfl
  | k :: ks => by rw [NestedKey.datas, toKeys, data_toKey k, datas_toKeys ks]; rfl
end
theorem data_inj {k l : NestedKey} (h : k.data = l.data) : k = l := by
  have := data_toKey k
  rw [h, data_toKey l] at this
  exact (Option.some.inj this).symm
mutual
theorem data_noD : ∀ k : NestedKey, noD k.data = true
  | .none => rfl
  | .num i => rfl
  | .text x => rfl
  | .tup ks => by rw [NestedKey.data, noD]; exact datas_noD ks
theorem datas_noD : ∀ ks : List NestedKey, noDs (NestedKey.datas ks) = true
  | [] => rfl
  | k :: ks => by rw [NestedKey.datas, noDs, data_noD k, datas_noD ks]; rfl
end
mutual
theorem eqv_data : ∀ k l : NestedKey, PyData.eqv k.data l.data = NestedKey.beq k l
  | .none, .none => by simp [NestedKey.data, PyData.eqv, NestedKey.beq]
  | .none, .num _ => by simp [NestedKey.data, PyData.eqv, NestedKey.beq]
  | .none, .text _ => by simp [NestedKey.data, PyData.eqv, NestedKey.beq]
  | .none, .tup _ => by simp [NestedKey.data, PyData.eqv, NestedKey.beq]
  | .num _, .none => by simp [NestedKey.data, PyData.eqv, NestedKey.beq]
  | .num i, .num j => by simp only [NestedKey.data, PyData.eqv, NestedKey.beq, Bool.beq_eq_decide_eq]
  | .num _, .text _ => by simp [NestedKey.data, PyData.eqv, NestedKey.beq]
  | .num _, .tup _ => by simp [NestedKey.data, PyData.eqv, NestedKey.beq]
  | .text _, .none => by simp [NestedKey.data, PyData.eqv, NestedKey.beq]
  | .text _, .num _ => by simp [NestedKey.data, PyData.eqv, NestedKey.beq]
  | .text x, .text y => by simp only [NestedKey.data, PyData.eqv, NestedKey.beq, Bool.beq_eq_decide_eq]
  | .text _, .tup _ => by simp [NestedKey.data, PyData.eqv, NestedKey.beq]
  | .tup _, .none => by simp [NestedKey.data, PyData.eqv, NestedKey.beq]
  | .tup _, .num _ => by simp [NestedKey.data, PyData.eqv, NestedKey.beq]
  | .tup _, .text _ => by simp [NestedKey.data, PyData.eqv, NestedKey.beq]
  | .tup ks, .tup ls => by
    rw [NestedKey.data, NestedKey.data, PyData.eqv, NestedKey.beq]
    exact eqvs_data ks ls
theorem eqvs_data : ∀ ks ls : List NestedKey, PyData.eqvAll (NestedKey.datas ks) (NestedKey.datas ls) = NestedKey.beqAll ks ls
  | [], [] => rfl
  | [], _ :: _ => by simp [NestedKey.datas, PyData.eqvAll, NestedKey.beqAll]
  | _ :: _, [] => by simp [NestedKey.datas, PyData.eqvAll, NestedKey.beqAll]
  | k :: ks, l :: ls => by
    rw [NestedKey.datas, NestedKey.datas, PyData.eqvAll, NestedKey.beqAll, eqv_data k l, eqvs_data ks ls]
end
theorem eqv_dec (k l : NestedKey) : PyData.eqv k.data l.data = decide (k = l) := by rw [eqv_data, NestedKey.decide_eq]
mutual
theorem nested_of {h : Heap} : ∀ (k : NestedKey) (v : Value) (as : List Addr), Reads h v k.data as → NestedIs h k v
  | .none, v, as, r => by rw [NestedKey.data] at r; cases r; exact .none
  | .num i, v, as, r => by rw [NestedKey.data] at r; cases r; exact .int _ _
  | .text x, v, as, r => by rw [NestedKey.data] at r; cases r; exact .text _ _
  | .tup ks, v, as, r => by
    rw [NestedKey.data] at r
    cases r with
    | tuple h1 h2 h3 h4 => exact .tup h1 h2 h3 (nesteds_of ks _ _ h4)
theorem nesteds_of {h : Heap} : ∀ (ks : List NestedKey) (vs : List Value) (as : List Addr), ReadsAll h vs (NestedKey.datas ks) as → NestedAll h ks vs
  | [], vs, as, r => by rw [NestedKey.datas] at r; cases r; exact .nil
  | k :: ks, vs, as, r => by
    rw [NestedKey.datas] at r
    cases r with
    | cons r1 r2 => exact .cons (nested_of k _ _ r1) (nesteds_of ks _ _ r2)
end
/-! ### the heap's dict -/
theorem dO_ok {P : Program} {w : World} {H : Hp} {h : Heap} {a : Addr} {x : DR} {o : Obj} (hd : (a == sysModules) = false) (hz : x.es.length ≤ sizeLine) (nd : (x.es.map (·.1)).Nodup) (dp : ∀ z ∈ x.es, z.1.depth ≤ 8 ∧ ∃ ks, z.1 = .tup ks)
    (ho : h.get? a = some o) (hx : o.ExactDict) (hdat : o.data = .dict x.en x.ep) (hp : Paired (fun (x : NestedKey × V × V) (e : DictEntry) => e.hash = x.1.hash w ∧ RelV x.2.1 e.key ∧ RelV x.2.2 e.val) x.es x.en.toList) : ObjOk P w H h a (dO w a x) :=
  ⟨⟨hd, hz, nd, dp, o, ho, hx, hdat, hp⟩, ⟨o, ho⟩, fun h1 h2 p k => by
    obtain ⟨p1, p2, p3, p4, o1, g1, g2, g3, g4⟩ := p
    exact ⟨p1, p2, p3, p4, o1, k _ g1, g2, g3, g4⟩⟩
section
variable {X : Cx} {pins : List (Addr × Obj)} {s : Shared} {σ : L2.St} {H F : Hp} {a : Addr}
abbrev EnX := fun (e : NestedKey × V × V) (x : NestedKey × Addr × Value) => e.1 = x.1 ∧ e.2.1 = V.ref x.2.1 ∧ RelV e.2.2 x.2.2
theorem dict_of (I : Inv X pins σ H s) (sm : Same F H) {es : DR} {kvs : List (D × D)} (ha : H a = some (dO X.w a es)) (re : RpE X.K X.w F es.es kvs) :
    (a == sysModules) = false ∧ es.es.length ≤ sizeLine ∧ ∃ xs : List (NestedKey × Addr × Value), s.heap.DictOfH (nestedKind X.prog X.w) a xs ∧ Paired EnX es.es xs := by
  obtain ⟨⟨hd, hz, nd, dp, o, ho, hx, hdat, hp⟩, _, _⟩ := I.hok a _ ha
  refine ⟨hd, hz, ?_⟩
  have key : ∀ (es : List (NestedKey × V × V)) (kvs : List (D × D)) (l : List DictEntry), RpE X.K X.w F es kvs → (∀ x ∈ es, x.1.depth ≤ 8 ∧ ∃ ks, x.1 = .tup ks) → Paired (fun (x : NestedKey × V × V) (e : DictEntry) => e.hash = x.1.hash X.w ∧ RelV x.2.1 e.key ∧ RelV x.2.2 e.val) es l →
      ∃ xs : List (NestedKey × Addr × Value), l = xs.map (entryOfKey (nestedKind X.prog X.w)) ∧ (∀ x ∈ xs, (nestedKind X.prog X.w).is s.heap x.1 x.2.1) ∧ Paired EnX es xs ∧ xs.map (·.1) = es.map (·.1) := by
    intro es
    induction es with
    | nil =>
      intro kvs l r _ p
      cases p
      exact ⟨[], rfl, (by intro x hx; cases hx), .nil, rfl⟩
    | cons x es ih =>
      intro kvs l r dp p
      cases p with
      | cons p1 p2 =>
        rename_i e l
        cases r with
        | cons r1 r2 r3 =>
          rename_i k kv v kvs d
          obtain ⟨xs, q1, q2, q3, q4⟩ := ih _ _ r3 (fun y hy => dp y (List.mem_cons_of_mem _ hy)) p2
          obtain ⟨hdp, ks, hks⟩ := dp _ List.mem_cons_self
          simp only at hks hdp
          subst hks
          obtain ⟨p1a, p1b, p1c⟩ := p1
          simp only at p1a p1b p1c
          obtain ⟨b, rfl⟩ : ∃ b, kv = V.ref b := by
            rw [NestedKey.data] at r1
            cases r1
            exact ⟨_, rfl⟩
          have ek : e.key = Value.ref b := p1b
          obtain ⟨as, hr⟩ := Rp.reads I _ _ _ (data_noD _) (r1.mono sm) p1b
          rw [ek] at hr
          refine ⟨(.tup ks, b, e.val) :: xs, ?_, ?_, .cons ⟨rfl, rfl, p1c⟩ q3, by simp [q4]⟩
          · rw [List.map_cons, ← q1]
            congr 1
            obtain ⟨eh, ekk, ev⟩ := e
            simp only at ek p1a
            subst ek p1a
            rfl
          · intro y hy
            rcases List.mem_cons.mp hy with rfl | hy
            · exact ⟨nested_of _ _ _ hr, hdp⟩
            · exact q2 y hy
  obtain ⟨xs, q1, q2, q3, q4⟩ := key es.es kvs _ re dp hp
  exact ⟨xs, ⟨o, es.en, es.ep, ho, hx, hdat, q1, q2, by rw [q4]; exact nd⟩, q3⟩
/-- and back -/
theorem dict_to {P : Program} {w : World} {H' : Hp} {h' : Heap} {es : List (NestedKey × V × V)} {xs : List (NestedKey × Addr × Value)} (hd : (a == sysModules) = false) (hz : es.length ≤ sizeLine) (dp : ∀ x ∈ es, x.1.depth ≤ 8 ∧ ∃ ks, x.1 = .tup ks) (hm : h'.DictOfH (nestedKind P w) a xs) (q : Paired EnX es xs) : ∃ x : DR, x.es = es ∧ ObjOk P w (upd H' a (dO w a x)) h' a (dO w a x) := by
  obtain ⟨o, es', ep, ho, hx, hdat, h1, h2, h3⟩ := hm
  have key : ∀ {es : List (NestedKey × V × V)} {xs : List (NestedKey × Addr × Value)}, Paired EnX es xs → es.map (·.1) = xs.map (·.1) ∧ Paired (fun (x : NestedKey × V × V) (e : DictEntry) => e.hash = x.1.hash w ∧ RelV x.2.1 e.key ∧ RelV x.2.2 e.val) es (xs.map (entryOfKey (nestedKind P w))) := by
    intro es xs q
    induction q with
    | nil => exact ⟨rfl, .nil⟩
    | cons h _ ih =>
      obtain ⟨e1, e2, e3⟩ := h
      refine ⟨by simp [ih.1, e1], .cons ⟨?_, ?_, ?_⟩ ih.2⟩
      · rw [e1]; rfl
      · rw [e2]; exact rfl
      · exact e3
  obtain ⟨k1, k2⟩ := key q
  exact ⟨⟨es, es', ep⟩, rfl, dO_ok (x := ⟨es, es', ep⟩) hd hz (by rw [k1]; exact h3) dp ho hx hdat (by rw [h1]; exact k2)⟩
end
end DL
namespace DL
open PySem PySem.Spec PyProof.Rows L2
/-! ### looking up, storing -/
def keyOk (d : D) : Bool := match d with
  | .tuple _ => match toKey d with
    | some k => decide (k.depth ≤ 8)
    | none => false
  | _ => false
theorem keyOk_key {d : D} (h : keyOk d = true) : ∃ ks, d = (NestedKey.tup ks).data ∧ (NestedKey.tup ks).depth ≤ 8 := by
  unfold keyOk at h
  split at h
  · rename_i xs
    split at h
    · rename_i k hk
      have e := toKey_data _ _ hk
      rw [toKey] at hk
      obtain ⟨ks, _, rfl⟩ := Option.map_eq_some_iff.mp hk
      exact ⟨ks, e.symm, of_decide_eq_true h⟩
    · cases h
  · cases h
def findD (kvs : List (D × D)) (key : D) : Option D := (kvs.find? fun p => PyData.eqv p.1 key).map (·.2)
def putD (kvs : List (D × D)) (key v : D) : List (D × D) := if (findD kvs key).isSome then kvs.map fun p => if PyData.eqv p.1 key then (p.1, v) else p else kvs ++ [(key, v)]
def putE (es : List (NestedKey × V × V)) (k : NestedKey) (kv v : V) : List (NestedKey × V × V) := if es.any (fun e => decide (e.1 = k)) then es.map fun e => if e.1 = k then (e.1, e.2.1, v) else e else es ++ [(k, kv, v)]
section
variable {K : PySem.W.Frag} {w : World} {F : Hp}
theorem find_rel {k : NestedKey} : ∀ {es : List (NestedKey × V × V)} {kvs : List (D × D)} {xs : List (NestedKey × Addr × Value)}, RpE K w F es kvs → Paired EnX es xs →
    (findD kvs k.data = none ∧ atKey xs k = none ∧ es.any (fun e => decide (e.1 = k)) = false) ∨ ∃ d b u v, findD kvs k.data = some d ∧ atKey xs k = some (b, u) ∧ Rp K w F v d ∧ RelV v u ∧ es.any (fun e => decide (e.1 = k)) = true
  | _, _, _, .nil, .nil => .inl ⟨rfl, rfl, rfl⟩
  | _, _, _, .cons (k := l) (kv := kv) (v := v) (d := d) r1 r2 r3, .cons (b := x) h t => by
    obtain ⟨h1, h2, h3⟩ := h
    simp only at h1 h2 h3
    by_cases e : l = k
    · right
      subst e
      refine ⟨d, x.2.1, x.2.2, v, ?_, ?_, r2, h3, by simp⟩
      · unfold findD
        rw [List.find?_cons_of_pos (by simp only [eqv_dec]; simp)]
        rfl
      · unfold atKey
        rw [List.find?_cons_of_pos (by simp [h1])]
        rfl
    · have ih := find_rel (k := k) r3 t
      have f1 : ∀ kvs', findD ((l.data, d) :: kvs') k.data = findD kvs' k.data := fun kvs' => by
        unfold findD
        rw [List.find?_cons_of_neg (by simp only [eqv_dec]; simp [e])]
      have f2 : ∀ xs', atKey (x :: xs') k = atKey xs' k := fun xs' => by
        unfold atKey
        rw [List.find?_cons_of_neg (by simp [← h1, e])]
      rw [f1, f2, List.any_cons, show decide ((l, kv, v).1 = k) = false from decide_eq_false e, Bool.false_or]
      exact ih
theorem put_map {k : NestedKey} {v : V} {u : Value} {d : D} (hv : RelV v u) (hr : Rp K w F v d) : ∀ {es : List (NestedKey × V × V)} {kvs : List (D × D)} {xs : List (NestedKey × Addr × Value)}, RpE K w F es kvs → Paired EnX es xs →
    RpE K w F (es.map fun e => if e.1 = k then (e.1, e.2.1, v) else e) (kvs.map fun p => if PyData.eqv p.1 k.data then (p.1, d) else p) ∧ Paired EnX (es.map fun e => if e.1 = k then (e.1, e.2.1, v) else e) (xs.map (putAt k u))
  | _, _, _, .nil, .nil => ⟨.nil, .nil⟩
  | _, _, _, .cons (k := l) (kv := kv) (v := v') (d := d') r1 r2 r3, .cons (b := x) h t => by
    obtain ⟨h1, h2, h3⟩ := h
    simp only at h1 h2 h3
    obtain ⟨i1, i2⟩ := put_map (k := k) hv hr r3 t
    simp only [List.map_cons]
    by_cases e : l = k
    · subst e
      rw [if_pos rfl, if_pos (by simp only [eqv_dec]; simp), show putAt l u x = (x.1, x.2.1, u) by unfold putAt; rw [if_pos h1.symm]]
      exact ⟨.cons r1 hr i1, .cons ⟨h1, h2, hv⟩ i2⟩
    · rw [if_neg e, if_neg (by simp only [eqv_dec]; simp [e]), show putAt k u x = x by unfold putAt; rw [if_neg (by rw [← h1]; exact e)]]
      exact ⟨.cons r1 r2 i1, .cons ⟨h1, h2, h3⟩ i2⟩
theorem rpE_snoc {k : NestedKey} {kv v : V} {d : D} (h1 : Rp K w F kv k.data) (h2 : Rp K w F v d) : ∀ {es : List (NestedKey × V × V)} {kvs : List (D × D)}, RpE K w F es kvs → RpE K w F (es ++ [(k, kv, v)]) (kvs ++ [(k.data, d)])
  | _, _, .nil => .cons h1 h2 .nil
  | _, _, .cons a b c => .cons a b (rpE_snoc h1 h2 c)
theorem paired_snoc {α β : Type} {R : α → β → Prop} {a : α} {b : β} (h : R a b) : ∀ {xs : List α} {ys : List β}, Paired R xs ys → Paired R (xs ++ [a]) (ys ++ [b])
  | _, _, .nil => .cons h .nil
  | _, _, .cons x y => .cons x (paired_snoc h y)
theorem put_rel {k : NestedKey} {b : Addr} {v : V} {u : Value} {d : D} (hk : Rp K w F (.ref b) k.data) (hv : RelV v u) (hr : Rp K w F v d) {es : List (NestedKey × V × V)} {kvs : List (D × D)} {xs : List (NestedKey × Addr × Value)} (r : RpE K w F es kvs) (q : Paired EnX es xs) :
    RpE K w F (putE es k (.ref b) v) (putD kvs k.data d) ∧ Paired EnX (putE es k (.ref b) v) (storedH xs k b u) := by
  unfold putE putD storedH
  rcases find_rel (k := k) r q with ⟨h1, h2, h3⟩ | ⟨_, _, _, _, h1, h2, _, _, h3⟩
  · rw [h1, h2, h3]
    exact ⟨rpE_snoc hk hr r, paired_snoc ⟨rfl, rfl, hv⟩ q⟩
  · rw [h1, h2, h3]
    exact put_map hv hr r q
theorem putE_len {es : List (NestedKey × V × V)} {k : NestedKey} {kv v : V} : (putE es k kv v).length ≤ es.length + 1 := by
  unfold putE
  split <;> simp
theorem putE_mem {es : List (NestedKey × V × V)} {k : NestedKey} {kv v : V} {P : NestedKey → Prop} (h : ∀ x ∈ es, P x.1) (hk : P k) : ∀ x ∈ putE es k kv v, P x.1 := by
  unfold putE
  split
  · intro x hx
    obtain ⟨y, hy, rfl⟩ := List.mem_map.mp hx
    split
    · exact h y hy
    · exact h y hy
  · intro x hx
    rcases List.mem_append.mp hx with hx | hx
    · exact h x hx
    · rw [List.mem_singleton.mp hx]
      exact hk
end
section
variable {X : Cx} {W : WX} {a b : Expr} {fa fb : DEnv → M D} {pos : Pos}
/-- the key's own tuple -/
theorem key_is {pins : List (Addr × Obj)} {s : Shared} {σ : L2.St} {H F : Hp} {ks : List NestedKey} {v : V} {u : Value} (I : Inv X pins σ H s) (sm : Same F H) (hr : Rp X.K X.w F v (NestedKey.tup ks).data) (hv : RelV v u) (hdp : (NestedKey.tup ks).depth ≤ 8) :
    ∃ c, v = .ref c ∧ u = .ref c ∧ (nestedKind X.prog X.w).is s.heap (.tup ks) c := by
  obtain ⟨as, r⟩ := Rp.reads I _ _ _ (data_noD _) (hr.mono sm) hv
  obtain ⟨c, rfl⟩ : ∃ c, v = V.ref c := by
    rw [NestedKey.data] at hr
    cases hr
    exact ⟨_, rfl⟩
  cases hv
  exact ⟨c, rfl, rfl, nested_of _ _ _ r, hdp⟩
def rPut (X : Cx) : V → V → V → Hp → (Hp → Prop) → Prop := fun o i v H Q => ∃ (p : Addr) (es : DR) (F : Hp) (kvs : List (D × D)) (ks : List NestedKey) (d : D), o = .ref p ∧ Same F H ∧ H p = some (dO X.w p es) ∧ RpE X.K X.w F es.es kvs ∧ es.es.length < sizeLine ∧ Rp X.K X.w F i (NestedKey.tup ks).data ∧ (NestedKey.tup ks).depth ≤ 8 ∧ Rp X.K X.w F v d ∧
  ∀ es' : DR, RpE X.K X.w F es'.es (putD kvs (NestedKey.tup ks).data d) → Q (upd H p (dO X.w p es'))
theorem set_put (hu : X.A.units + 64 < cLine) : PSet X (rPut X) := by
  intro pins s σ H o i v ov iv u Q I ro ri rv h
  obtain ⟨p, es, F, kvs, ks, d, rfl, sm, hp, re, hz, rk, hdp, rd, q⟩ := h
  cases ro
  obtain ⟨c, rfl, rfl, hkey⟩ := key_is I sm rk ri hdp
  obtain ⟨hd, _, xs, hm, px⟩ := dict_of I sm hp re
  have hlx : xs.length = es.es.length := (Paired.length px).symm
  obtain ⟨⟨_, _, _, dp, _⟩, _, _⟩ := I.hok p _ hp
  refine wpAny_setItem_heap (knd := nestedKind X.prog X.w) (by show X.A.units + 1 + 8 < cLine; omega) hkey hm (fun h' hm' hs => ?_) (by rw [hlx]; omega)
  obtain ⟨e1, e2⟩ := put_rel rk rv rd re px
  have ho : ∃ u, h'.get? p = some u := by
    obtain ⟨o, _, _, ho, _⟩ := hm'
    exact ⟨o, ho⟩
  obtain ⟨x', ex', hno⟩ := dict_to (P := X.prog) (w := X.w) (H' := H) hd (Nat.le_trans putE_len (by omega)) (putE_mem (P := fun k => k.depth ≤ 8 ∧ ∃ ks, k = .tup ks) dp ⟨hdp, ks, rfl⟩) hm' e2
  exact ⟨_, I.write (x := p) (e := p) (t' := _) (by rw [hp]; trivial) (.inl rfl) (fun b ob hb hg => by rw [hs.2 b hb]; exact hg) ho hno, q _ (by rw [ex']; exact e1)⟩
theorem own_dict {K : PySem.W.Frag} {w : World} {hd : Option Value} {B : Bs hd} {F H : Hp} {σ : L2.St} {env : DEnv} {i : Nat} {kvs : List (D × D)} (ok : EnvOk K w B F H σ env) (q : env[i]? = some (some (.ow (.dict kvs)))) :
    ∃ (a : Addr) (es : DR), σ[i]? = some (some (.ref a)) ∧ H a = some (dO w a es) ∧ RpE K w F es.es kvs ∧ F a = none := by
  obtain ⟨v, h1, h2, a, rfl, h4, h5⟩ := ok.sl i _ q
  obtain ⟨b, e0, ⟨vs, es, e1, e2, r⟩ | ⟨es, kvs, e1, e2, r⟩⟩ := h2
  · cases e1
  · cases e0; cases e1
    exact ⟨a, es, h1, e2, r, h5⟩
theorem RpE.length {K : PySem.W.Frag} {w : World} {F : Hp} : ∀ {es : List (NestedKey × V × V)} {kvs : List (D × D)}, RpE K w F es kvs → es.length = kvs.length
  | _, _, .nil => rfl
  | _, _, .cons _ _ t => by simp [RpE.length t]
/-- x[k] = e, x one's own dict -/
def dPut (i : Nat) (fk fe : DEnv → M D) (env : DEnv) : Option Out := match env[i]? with
  | some (some (.ow (.dict kvs))) => eS (fe env) env fun d => eS (fk env) env fun k => if keyOk k = true ∧ kvs.length < sizeLine then some (.nx (env.set i (some (.ow (.dict (putD kvs k d)))))) else none
  | _ => none
theorem ds_put {i : Nat} {x : Str} {p2 tpos : Pos} (hu : X.A.units + 64 < cLine) (hk : DE X W .v b fb) (he : DE X W .v a fa) (hi : X.N[i]? = some x := by rfl) (hv : Vis X.env.scope x := by first | exact Or.inl rfl | exact Or.inr (Or.inl rfl) | exact Or.inr (Or.inr rfl))
    (hd : (x == ("__debug__" : Str)) = false := by decide) (hcd : (x == ("__classdict__" : Str)) = false := by decide)
    (ha : ∀ v, assign (.Subscript (.Name x p2) b tpos) X.env v = (do
      let ov ← holding [v] (eval (.Name x p2) X.env)
      let iv ← holding [v, ov] (eval b X.env)
      standAt tpos
      holding [v, ov, iv] (setItem ov iv v)
      release [v, ov, iv] []) := by intro _; rfl)
    (hs : swapsWithSole [.Subscript (.Name x p2) b tpos] a pos.line X.env = pure false := by rfl) (hw : swappedStores [.Subscript (.Name x p2) b tpos] a X.env = pure none := by rfl)
    (h1 : (assignEach [.Subscript (.Name x p2) b tpos] X.env).map (·.2) = [assign (.Subscript (.Name x p2) b tpos) X.env] := by rfl) :
    DS X W (.Assign [.Subscript (.Name x p2) b tpos] a pos) (dPut i fb fa) := by
  obtain ⟨ta, he, qa⟩ := he
  obtain ⟨tb, hk, qb⟩ := hk
  refine ⟨_, ps_asg he (pg_sub (pe_var hi hv hd hcd) hk (set_put hu) ha) hs hw h1, fun B F H σ env D ok h => ?_⟩
  unfold dPut at h
  split at h
  · rename_i kvs q
    obtain ⟨l, es, g1, g2, g3, g4⟩ := own_dict ok q
    refine qa B F H σ env _ ok ((AnsO.eS ok h).mono (fun d k v F1 H1 x1 r => ?_) fun c k => k)
    refine ⟨.ref l, g1, qb B F1 H1 σ env _ (ok.mono x1) ((AnsO.eS (ok.mono x1) k).mono (fun dk k u F2 H2 x2 r2 => ?_) fun c k => k)⟩
    have r2 : Rp X.K X.w F2 u dk := r2
    split at k
    · rename_i hc
      obtain ⟨ks, rfl, hdp⟩ := keyOk_key hc.1
      have re := (g3.mono x1.ff).mono x2.ff
      refine ⟨l, es, F2, kvs, ks, d, rfl, x2.fh, x2.hh _ _ (x1.hh _ _ g2), re, by rw [RpE.length g3]; exact hc.2, r2, hdp, Rp.mono x2.ff r, fun es' re' => ?_⟩
      exact k F2 _ σ (((ok.mono x1).mono x2).write q g1 ⟨l, rfl, .inr ⟨es', _, rfl, upd_same, re'⟩⟩)
    · exact k.elim
  · exact h.elim
/-- {} -/
def dDnew (_ : DEnv) : M D := mok (.dict [])
theorem de_dnew : DE X W .o (.Dict [] [] pos) dDnew := by
  refine ⟨fun _ H Q => ∀ p, H p = none → Q (.ref p) (upd H p (dO X.w p ⟨[], #[], 0⟩)), ⟨fun pins s σ H Q I h => ?_⟩, fun B F H σ env Q ok h p hp => ?_⟩
  · have hno : ObjOk X.prog X.w (upd H s.heap.objs.size (dO X.w s.heap.objs.size ⟨[], #[], 0⟩)) (s.heap.push { cls := .type "dict", data := .dict #[] }) s.heap.objs.size (dO X.w s.heap.objs.size ⟨[], #[], 0⟩) :=
      dO_ok (beq_eq_false_iff_ne.mpr (Ne.symm (Nat.ne_of_lt I.big))) (Nat.zero_le _) List.nodup_nil (by intro x hx; cases hx) (Heap.get?_push_size _ rfl) ⟨rfl, rfl, rfl⟩ rfl .nil
    exact wpAny_Dict_empty ⟨.ref s.heap.objs.size, _, I.laid (a := s.heap.objs.size) (t' := s.toks) (fun _ _ q => Heap.get?_push_of_some _ q) (Nat.le_refl _) hno, rfl, h _ (I.hok.fresh (Nat.le_refl _))⟩
  · exact h (.ref p) F _ (Ext.newO ok.fh hp) ⟨⟨p, rfl, .inr ⟨⟨[], #[], 0⟩, [], rfl, upd_same, .nil⟩⟩, p, rfl, hp, ok.fh.free hp⟩
end
end DL
namespace DL
open PySem PySem.Spec PyProof.Rows L2
/-! ### a dict as it stands -/
theorem Sh.dict {K : PySem.W.Frag} {w : World} {F H : Hp} {v : V} {kvs : List (D × D)} (x : Sh K w F H v (.dict kvs)) (s : Same F H) : ∃ (a : Addr) (es : DR), v = .ref a ∧ H a = some (dO w a es) ∧ RpE K w F es.es kvs := by
  rcases x with x | ⟨a, e, ⟨vs, es, e1, e2, r⟩ | ⟨es, kvs, e1, e2, r⟩⟩
  · cases x with
    | dic h r => exact ⟨_, _, rfl, s _ _ h, r⟩
  · cases e1
  · cases e1; exact ⟨a, es, e, e2, r⟩
section
variable {X : Cx} {W : WX} {o e e2 : Expr} {fo fa fb : DEnv → M D} {apos cpos : Pos}
theorem dict_ty {pins : List (Addr × Obj)} {s : Shared} {σ : L2.St} {H : Hp} {p : Addr} {es : DR} (I : Inv X pins σ H s) (hp : H p = some (dO X.w p es)) : s.TypeIs (.ref p) "dict" ∧ ∀ a, Value.ref p = .ref a → ∃ ob, s.heap.get? a = some ob ∧ ob.dict = none := by
  obtain ⟨⟨_, _, _, _, ob, ho, hx, _⟩, _, _⟩ := I.hok p _ hp
  exact ⟨⟨ob, ho, hx.1⟩, fun a e => by cases e; exact ⟨ob, ho, hx.2.1⟩⟩
/-- d.get(k, x) -/
def rGet (X : Cx) : V → List V → Hp → VK → Prop := fun d xs H Q => ∃ (p : Addr) (es : DR) (F : Hp) (kvs : List (D × D)) (ks : List NestedKey) (k x : V) (z : D), d = .ref p ∧ xs = [k, x] ∧ Same F H ∧ H p = some (dO X.w p es) ∧ RpE X.K X.w F es.es kvs ∧ Rp X.K X.w F k (NestedKey.tup ks).data ∧ (NestedKey.tup ks).depth ≤ 8 ∧ Rp X.K X.w F x z ∧
  ∀ v, Rp X.K X.w F v ((findD kvs (NestedKey.tup ks).data).getD z) → Q v H
theorem mt_get (hu : X.A.units + 64 < cLine) : MtR X "dict.get" (rGet X) := by
  intro pins s σ H x xs v us Q I rx rxs h
  obtain ⟨p, es, F, kvs, ks, k, d, z, rfl, rfl, sm, hp, re, rk, hdp, rz, q⟩ := h
  cases rx
  cases rxs with
  | cons r1 r2 =>
    cases r2 with
    | cons r2 r3 =>
      cases r3
      obtain ⟨c, rfl, rfl, hkey⟩ := key_is I sm rk r1 hdp
      obtain ⟨hd, _, xs, hm, px⟩ := dict_of I sm hp re
      refine call_meetsIn PySem.F.slot_dict_get hm.typeIs PySem.F.entry_dict_get (PySem.F.args_dict_get_3 _ _ _) (meetsH_dict_get_default (nestedKind X.prog X.w) p c hd _) ⟨by show X.A.units + 1 + 8 < cLine; omega, .tup ks, xs, hkey, hm, ?_⟩
      rcases find_rel (k := .tup ks) re px with ⟨h1, h2, _⟩ | ⟨d', b', u', v', h1, h2, h3, h4, _⟩
      · rw [h2]
        rw [h1] at q
        exact ⟨_, H, I.tok _, r2, q _ rz⟩
      · rw [h2]
        rw [h1] at q
        exact ⟨_, H, I.tok _, h4, q _ h3⟩
theorem pe_mD {to : TE} {t : TA} {r : V → List V → Hp → VK → Prop} {nm : Str} {id : String} (slot : Slot "dict" nm id) (hty : typeOf (.builtin id) = pure (.type "method_descriptor")) (hm : MtR X id r) (ho : PE X o to) (ha : PA X [e, e2] t)
    (hb : attributeBase o nm X.env (eval o X.env) = eval o X.env := by rfl)
    (hf : ((backTo cpos (starEach [e, e2] X.env)).all (fun x => !x.1) && (backToKw cpos (keywordEach [] X.env)).all (fun x => x.1.isSome) && decide ([e, e2].length + ([] : List Keyword).length + (if ([] : List Keyword).isEmpty then 0 else 1) < 30)) = true := by rfl)
    (hl : (apos.endLine == cpos.line) = true := by rfl) (hs : starEach [e, e2] X.env = (false, eval e X.env) :: starEach [e2] X.env := by rfl) (hpl : (backTo cpos (starEach [e2] X.env)).any (·.1) = false := by rfl) :
    PE X (.Call (.Attribute o nm apos) [e, e2] [] cpos) (fun σ H Q => to σ H fun d H1 => (∃ (p : Addr) (es : DR), d = .ref p ∧ H1 p = some (dO X.w p es)) ∧ t σ H1 fun xs H2 => r d xs H2 Q) := by
  refine ⟨fun pins s σ H Q I h => wpAny_Call_method_late hb hf hl rfl (thn (ho.run pins s σ H _ I h) fun v s1 ⟨x, H1, I1, r1, ⟨p, es, hx, hp⟩, q1⟩ => ?_)⟩
  subst hx
  cases r1
  obtain ⟨t1, t2⟩ := dict_ty I1 hp
  refine ⟨"dict", id, PySem.F.plainAttrs_dict, slot, hty, t1, t2, ?_⟩
  have hA := ha.run cpos pins s1 σ H1 _ I1 q1
  rw [hs] at hA ⊢
  refine Calls.callWith_builtin (by show (false || (backTo cpos (starEach [e2] X.env)).any (·.1)) = false; rw [hpl] <;> rfl) (Calls.evalArgs_plain (thn hA fun us s2 ⟨vs, H2, I2, r2, q2⟩ => ?_))
  exact hm pins s2 σ H2 (.ref p) vs (.ref p) us Q I2 rfl r2 q2
def getX (kvs : List (D × D)) : List D → M D
  | [k, x] => if keyOk k = true then mok ((findD kvs k).getD x) else none
  | _ => none
def dGet (fd : DEnv → M D) (fs : DEnv → M (List D)) (env : DEnv) : M D := mbind (fd env) fun d => match d with
  | .dict kvs => mbind (fs env) (getX kvs)
  | _ => none
theorem de_get {k : Nat} {fs : DEnv → M (List D)} (hr : Room k X.A) (ho : DE X W .s o fo) (ha : DA X W .v [e, e2] fs)
    (hb : attributeBase o "get" X.env (eval o X.env) = eval o X.env := by rfl)
    (hf : ((backTo cpos (starEach [e, e2] X.env)).all (fun x => !x.1) && (backToKw cpos (keywordEach [] X.env)).all (fun x => x.1.isSome) && decide ([e, e2].length + ([] : List Keyword).length + (if ([] : List Keyword).isEmpty then 0 else 1) < 30)) = true := by rfl)
    (hl : (apos.endLine == cpos.line) = true := by rfl) (hs : starEach [e, e2] X.env = (false, eval e X.env) :: starEach [e2] X.env := by rfl) (hpl : (backTo cpos (starEach [e2] X.env)).any (·.1) = false := by rfl) :
    DE X W .v (.Call (.Attribute o "get" apos) [e, e2] [] cpos) (dGet fo fs) := by
  obtain ⟨to, ho, qo⟩ := ho
  obtain ⟨len, t, ha, qa⟩ := ha
  refine ⟨_, pe_mD PySem.F.slot_dict_get PySem.F.type_dict_get (mt_get hr.units) ho ha hb hf hl hs hpl, fun B F H σ env Q ok h => qo B F H σ env _ ok (h.bind.mono (fun d k v F1 H1 x1 r1 => ?_) fun c k => k)⟩
  have r1 : Sh X.K X.w F1 H1 v d := r1
  cases d with
  | dict kvs =>
    obtain ⟨p, es, rfl, hp, re⟩ := r1.dict x1.fh
    have k : Ans (mbind (fs env) (getX kvs)) _ _ := k
    refine ⟨⟨p, es, rfl, hp⟩, qa B F1 H1 σ env _ (ok.mono x1) (k.bind.mono (fun ds k vs F2 H2 x2 r2 => ?_) fun c k F' H' e => k F' H' (x1.trans e))⟩
    have r2 : RpA X.K X.w F2 vs ds := r2
    unfold getX at k
    split at k
    · rename_i kd xd
      split at k
      · rename_i hk
        obtain ⟨ks, rfl, hdp⟩ := keyOk_key hk
        cases r2 with
        | cons ra rb =>
          cases rb with
          | cons rb rc =>
            cases rc
            exact ⟨p, es, F2, kvs, ks, _, _, _, rfl, rfl, x2.fh, x2.hh _ _ hp, re.mono x2.ff, ra, hdp, rb, fun v hv => k v F2 H2 (x1.trans x2) hv⟩
      · exact k.elim
    · exact k.elim
  | _ => exact k.elim
end
/-! ### sorted(d.items()) -/
def itemsD (kvs : List (D × D)) : List D := kvs.map fun p => .tuple [p.1, p.2]
section
variable {X : Cx} {pins : List (Addr × Obj)} {s : Shared} {σ : L2.St} {H F : Hp} {r p : Addr}
theorem each_refs {β : Type} {f : β → Addr} : ∀ (zs : List β), PySem.W.EachIs (fun (u : Value) (z : β) => u = .ref (f z)) (zs.map fun z => Value.ref (f z)) zs
  | [] => .nil
  | z :: zs => .cons rfl (each_refs zs)
theorem refs_each {β : Type} {f : β → Addr} : ∀ {us : List Value} {zs : List β}, PySem.W.EachIs (fun (u : Value) (z : β) => u = .ref (f z)) us zs → us = zs.map fun z => Value.ref (f z)
  | _, _, .nil => rfl
  | _, _, .cons h t => by rw [h, refs_each t]; rfl
theorem vals_refs {β : Type} {f : β → Addr} : ∀ (zs : List β), Vals (zs.map fun z => V.ref (f z)) (zs.map fun z => Value.ref (f z))
  | [] => .nil
  | _ :: zs => .cons rfl (vals_refs zs)
theorem rpE_get {K : PySem.W.Frag} {w : World} {F : Hp} : ∀ {es : List (NestedKey × V × V)} {kvs : List (D × D)} {i : Nat} {e : NestedKey × V × V}, RpE K w F es kvs → es[i]? = some e → ∃ d, kvs[i]? = some (e.1.data, d) ∧ Rp K w F e.2.1 e.1.data ∧ Rp K w F e.2.2 d
  | _, _, i, e, .nil, h => by simp at h
  | _, _, 0, e, .cons r1 r2 r3, h => by
    simp at h
    subst h
    exact ⟨_, rfl, r1, r2⟩
  | _, _, i + 1, e, .cons r1 r2 r3, h => by
    obtain ⟨d, h1, h2⟩ := rpE_get (i := i) r3 (by simpa using h)
    exact ⟨d, by simpa using h1, h2⟩
theorem paired_get {α β : Type} {R : α → β → Prop} : ∀ {xs : List α} {ys : List β} {i : Nat} {y : β}, Paired R xs ys → ys[i]? = some y → ∃ x, xs[i]? = some x ∧ R x y
  | _, _, i, y, .nil, h => by simp at h
  | _, _, 0, y, .cons h _, e => by simp at e; subst e; exact ⟨_, rfl, h⟩
  | _, _, i + 1, y, .cons _ t, e => by
    obtain ⟨x, h1, h2⟩ := paired_get (i := i) t (by simpa using e)
    exact ⟨x, by simpa using h1, h2⟩
theorem sortItems_at {es : DR} {kvs : List (D × D)} {Q : VK} (I : Inv X pins σ H s) (hc : X.calm = true) (sm : Same F H) (hr : H r = some (DX.itemsO r p)) (hp : H p = some (dO X.w p es)) (re : RpE X.K X.w F es.es kvs) (hplain : plainP (itemsD kvs) = true) (hu : X.A.units + 64 < cLine) (hs : srtOk (itemsD kvs) = true)
    (q : ∀ v F' H', Ext F H F' H' → RM X.K X.w H F' H' .o v (.list (srt (itemsD kvs))) → Q v H') : wpAny (model X.prog X.w) X.A (call (.builtin "sorted") [.ref r]) (EP X pins σ Q) X.xe s := by
  have view : s.heap.IsItemsView r p := (show ObjOk X.prog X.w H s.heap r (DX.itemsO r p) from I.hok r _ hr).1
  obtain ⟨⟨hsys, hz, nd, dp, ob, ho, hx, hdat, hpr⟩, _, _⟩ := I.hok p _ hp
  have hh : X.A.handled = none := I.ok.hd hc
  have l1 : es.es.length = es.en.size := by rw [Paired.length hpr]; simp
  have l2 := RpE.length re
  refine DT.sortedI (es := es.en) (ep := es.ep) hh view ⟨ob, ho, hx, hdat⟩ (by omega) fun h' tk as hk hlt hl hG => ?_
  have lk : as.length = kvs.length := by omega
  have ndA : as.Nodup := List.Pairwise.imp (fun h => Nat.ne_of_lt h) hG.rise
  -- the pairs
  have pr : ∀ (j : Nat) (b : Addr), as[j]? = some b → ∃ (e : NestedKey × V × V) (u1 u2 : Value) (d : D), es.es[j]? = some e ∧ kvs[j]? = some (e.1.data, d) ∧ Rp X.K X.w F e.2.1 e.1.data ∧ Rp X.K X.w F e.2.2 d ∧ RelV e.2.1 u1 ∧ RelV e.2.2 u2 ∧ h'.get? b = some { cls := .type "tuple", data := .seq #[u1, u2] } := by
    intro j b hj
    obtain ⟨en, he, hg⟩ := hG.pairs j b hj
    rw [← Array.getElem?_toList] at he
    obtain ⟨e, h1, _, h3, h4⟩ := paired_get hpr he
    obtain ⟨d, h5, h6, h7⟩ := rpE_get re h1
    exact ⟨e, en.key, en.val, d, h1, h5, h6, h7, h3, h4, hg⟩
  let zs := as.zip kvs
  have hzm : ∀ z ∈ zs, ∃ j : Nat, as[j]? = some z.1 ∧ kvs[j]? = some z.2 := fun z hz => by
    obtain ⟨j, hj⟩ := List.mem_iff_getElem?.mp hz
    exact ⟨j, List.getElem?_zip_eq_some.mp hj⟩
  let enc : Addr × (D × D) → D := fun z => .tuple [z.2.1, z.2.2]
  have eA : as.map Value.ref = zs.map fun z => Value.ref z.1 := by
    have : zs.map (·.1) = as := List.map_fst_zip (by omega)
    rw [← this, List.map_map]
    rfl
  have eE : zs.map enc = itemsD kvs := by
    have : zs.map (·.2) = kvs := List.map_snd_zip (by omega)
    unfold itemsD
    rw [← this, List.map_map]
    rfl
  have hob : (h'.push { cls := .type "list", data := .seq (as.map Value.ref).toArray }).get? h'.objs.size = some (seqObj "list" (as.map Value.ref).toArray 0) := Heap.get?_push_size _ rfl
  generalize hh2 : h'.push { cls := .type "list", data := .seq (as.map Value.ref).toArray } = h2 at hob ⊢
  have ka : ∀ b o, h'.get? b = some o → h2.get? b = some o := fun b o e => by rw [← hh2]; exact Heap.get?_push_of_some _ e
  have ne0 : ∀ b o, h'.get? b = some o → b ≠ h'.objs.size := fun b o e => Nat.ne_of_lt (Heap.lt_size e)
  have kM : ∀ b o, h'.get? b = some o → (PySem.W.sortingHeap h2 h'.objs.size (as.map Value.ref)).get? b = some o := fun b o e => PySem.W.sortingHeap_old (ne0 b o e) (ka b o e)
  have er : PySem.W.EachIs (fun v z => ∃ cs, Reads (PySem.W.sortingHeap h2 h'.objs.size (as.map Value.ref)) v (enc z) cs) (as.map Value.ref) zs := by
    have e00 : PySem.W.EachIs (fun (u : Value) (z : Addr × (D × D)) => u = .ref z.1) (as.map Value.ref) zs := by rw [eA]; exact each_refs (f := fun z : Addr × (D × D) => z.1) zs
    refine each_and e00 fun u z hz e => ?_
    subst e
    obtain ⟨j, h1, h2'⟩ := hzm z hz
    obtain ⟨e, u1, u2, d, g1, g2, g3, g4, g5, g6, g7⟩ := pr j z.1 h1
    have ez2 : z.2 = (e.1.data, d) := Option.some.inj (h2'.symm.trans g2)
    have ez : enc z = .tuple [e.1.data, d] := by show PyData.tuple [z.2.1, z.2.2] = _; rw [ez2]
    have hok := srtOk_eq hs (.tuple [e.1.data, d]) (by rw [← eE, ← ez]; exact List.mem_map.mpr ⟨z, hz, rfl⟩)
    rw [ez]
    unfold eqOk at hok
    simp only [Bool.and_eq_true, noD, noDs, Bool.and_true] at hok
    obtain ⟨c1, r1⟩ := Rp.reads I _ _ _ (data_noD _) (g3.mono sm) g5
    obtain ⟨c2, r2⟩ := Rp.reads I _ _ _ hok.1.2 (g4.mono sm) g6
    have r1' := PyProof.Rows.Reads.keeps (fun b o e => kM b o (hk b o e)) r1
    have r2' := PyProof.Rows.Reads.keeps (fun b o e => kM b o (hk b o e)) r2
    exact ⟨_, Reads.tuple (kM _ _ g7) rfl rfl (.cons r1' (.cons r2' .nil))⟩
  have hlen : (as.map Value.ref).length ≤ sizeLine := by rw [List.length_map]; omega
  refine wpAny_call_entry PyProof.Rows.slot_list_sort ⟨_, hob, rfl⟩ PyProof.Rows.entry_list_sort ?body (PyProof.Rows.args_list_sort _)
  refine wpAny_mono (PySem.W.list_sort_vals (P := fun f s' => f = .done (.ret .none) ∧ EP X pins σ Q (.ref h'.objs.size) s') (s := { s with heap := h2, toks := tk }) hob
      (SortsAt.ok (s := { s with heap := PySem.W.sortingHeap h2 h'.objs.size (as.map Value.ref), toks := tk }) (PySem.W.each_map (R := fun v d => ∃ cs, Reads (PySem.W.sortingHeap h2 h'.objs.size (as.map Value.ref)) v d cs) enc er) (by rw [eE]; exact hs) ?_ ?_) hlen ⟨rfl, ?_⟩) (fun f s' hf => ?_) fun _ _ e => e
  · show X.A.units + 1 + 1 + 60 < cLine
    omega
  · intro _ d hd
    obtain ⟨z, _, rfl⟩ := List.mem_map.mp hd
    exact fun h => by cases h
  · have hR := sort_each (h' := PySem.W.sortingHeap h2 h'.objs.size (as.map Value.ref)) (R := fun (u : Value) (z : Addr × (D × D)) => u = .ref z.1) (by rw [eA]; exact each_refs (f := fun z : Addr × (D × D) => z.1) zs) er (by rw [eE]; exact srtOk_alike hs)
    generalize hout : PySem.W.sortVals (PySem.W.dataKind (PySem.W.sortingHeap h2 h'.objs.size (as.map Value.ref)) (zs.map enc)) false (as.map Value.ref) (as.map Value.ref) = out at hR ⊢
    have hout2 := refs_each (f := fun z : Addr × (D × D) => z.1) hR
    let ss := zs.mergeSort (PySem.W.dataLe false enc)
    have hperm : ss.Perm zs := List.mergeSort_perm _ _
    have kF : ∀ b o, b ≠ h'.objs.size → h2.get? b = some o → (sortedHeap h2 h'.objs.size (as.map Value.ref) out.toArray).get? b = some o := fun b o hb e => (PyProof.Rows.sortedHeap_old hb (Heap.lt_size e)).trans e
    have kS : ∀ b o, s.heap.get? b = some o → (sortedHeap h2 h'.objs.size (as.map Value.ref) out.toArray).get? b = some o := fun b o e => kF b o (ne0 _ _ (hk b o e)) (ka b o (hk b o e))
    obtain ⟨eF, heF⟩ := PyProof.Rows.sortedHeap_at (vs := as.map Value.ref) (out := out.toArray) hob
    have I1 : Inv X pins σ H { s with heap := sortedHeap h2 h'.objs.size (as.map Value.ref) out.toArray, toks := tk } := I.kept (t' := tk) kS
    have hn0 : H h'.objs.size = none := I.hok.fresh (Nat.le_of_lt hlt)
    have hl3 : (ss.map fun z => V.ref z.1).length ≤ sizeLine := by
      rw [List.length_map, hperm.length_eq]
      show (as.zip kvs).length ≤ _
      rw [List.length_zip]
      omega
    have rv : Vals (ss.map fun z => V.ref z.1) out := by
      rw [hout2]
      exact vals_refs (f := fun z : Addr × (D × D) => z.1) ss
    have I2 := I1.take (h' := sortedHeap h2 h'.objs.size (as.map Value.ref) out.toArray) (t' := tk) (o := .lst (ss.map fun z => V.ref z.1)) (fun b ob _ e => e) (I.fpOk (Nat.le_of_lt hlt) hn0) ⟨hl3, out, eF, rv, heF⟩
    obtain ⟨H2, I3, g, qt⟩ := DX.takeT (P := fun b vs => ∃ (j : Nat) (e : NestedKey × V × V), as[j]? = some b ∧ es.es[j]? = some e ∧ vs = [e.2.1, e.2.2]) I as _ I2 ndA fun b hb => by
      obtain ⟨j, hj⟩ := List.mem_iff_getElem?.mp hb
      obtain ⟨e, u1, u2, d, g1, g2, g3, g4, g5, g6, g7⟩ := pr j b hj
      have hbl : s.heap.objs.size ≤ b := Nat.le_of_lt (hG.above b hb)
      refine ⟨hbl, ?_, [e.2.1, e.2.2], ⟨j, e, hj, g1, rfl⟩, fun H3 => ⟨(by rw [sizeLine_eq]; show 2 ≤ 16777216; omega), [u1, u2], .cons g5 (.cons g6 .nil), ⟨_, kF _ _ (ne0 _ _ g7) (ka _ _ g7), rfl, 0, rfl⟩⟩⟩
      rw [upd_ne (ne0 _ _ g7)]
      exact I.hok.fresh hbl
    have gr : Same H H2 := fun b o e => g b o (by rw [upd_ne (ne_of_none e hn0)]; exact e)
    -- frozen: the pairs
    let F2 : Hp := fun b => if b ∈ as then H2 b else F b
    have asN : ∀ b ∈ as, H b = none := fun b hb => I.hok.fresh (Nat.le_of_lt (hG.above b hb))
    have FF : Same F F2 := fun b o e => by
      have : b ∉ as := fun hb => by have := asN b hb; rw [sm b o e] at this; cases this
      show (if b ∈ as then H2 b else F b) = some o
      rw [if_neg this]; exact e
    have FH : Same F2 H2 := fun b o e => by
      have e : (if b ∈ as then H2 b else F b) = some o := e
      by_cases hb : b ∈ as
      · rw [if_pos hb] at e; exact e
      · rw [if_neg hb] at e; exact gr _ _ (sm _ _ e)
    have ex : Ext F H F2 H2 := ⟨FF, gr, FH, fun b o e => by
      have e : (if b ∈ as then H2 b else F b) = some o := e
      by_cases hb : b ∈ as
      · exact .inr (.inl (asN b hb))
      · rw [if_neg hb] at e; exact .inl e⟩
    have hln : h'.objs.size ∉ as := fun hb => by
      have := hG.there hb
      exact Nat.lt_irrefl _ this
    have hF0 : F2 h'.objs.size = none := by
      show (if h'.objs.size ∈ as then H2 h'.objs.size else F h'.objs.size) = none
      rw [if_neg hln]
      exact sm.free hn0
    have rpz : ∀ zs' : List (Addr × (D × D)), (∀ z ∈ zs', z ∈ zs) → RpA X.K X.w F2 (zs'.map fun z => V.ref z.1) (zs'.map enc) := by
      intro zs' hzs
      induction zs' with
      | nil => exact .nil
      | cons z zs' ih =>
        refine .cons ?_ (ih fun y hy => hzs y (List.mem_cons_of_mem _ hy))
        obtain ⟨j, h1, h2'⟩ := hzm z (hzs z List.mem_cons_self)
        obtain ⟨e, u1, u2, d, g1, g2, g3, g4, g5, g6, g7⟩ := pr j z.1 h1
        obtain ⟨vs, ⟨i, e', i1, i2, rfl⟩, hH⟩ := qt z.1 (List.mem_of_getElem? h1)
        have eij : i = j := (List.getElem?_inj (List.getElem?_eq_some_iff.mp i1).1 ndA).mp (i1.trans h1.symm)
        subst eij
        rw [g1] at i2
        cases i2
        rw [g2] at h2'
        have h2'' : z.2 = (e.1.data, d) := (Option.some.inj h2').symm
        have ez : enc z = .tuple [e.1.data, d] := by show PyData.tuple [z.2.1, z.2.2] = _; rw [h2'']
        rw [ez]
        refine .tup (.inl (.inl ?_)) (.cons (g3.mono FF) (.cons (g4.mono FF) .nil)) fun zf => by
          have := plainP_at hplain (i := i) (xs := [e.1.data, d]) (by unfold itemsD; rw [List.getElem?_map, g2]; rfl)
          rw [this] at zf
          cases zf
        show (if z.1 ∈ as then H2 z.1 else F z.1) = _
        rw [if_pos (List.mem_of_getElem? h1)]
        exact hH
    have hsrt : ss.map enc = srt (itemsD kvs) := by
      rw [← eE]
      unfold srt
      exact List.map_mergeSort fun a _ b _ => rfl
    refine ⟨.ref h'.objs.size, H2, I3, rfl, q _ F2 H2 ex ⟨⟨_, rfl, .inl ⟨_, _, rfl, g _ _ upd_same, ?_⟩⟩, _, rfl, hn0, hF0⟩⟩
    rw [← hsrt]
    exact rpz ss fun z hz => hperm.mem_iff.mp hz
  · obtain ⟨rfl, hq⟩ := hf
    exact ⟨_, rfl, hq⟩
end
end DL
namespace DL
open PySem PySem.Spec PyProof.Rows L2
section
variable {X : Cx} {W : WX} {o : Expr} {fo : DEnv → M D} {apos cpos pos pn : Pos}
/-- d.items(): the view -/
theorem pe_itemsD {to : TE} (ho : PE X o to) (hb : attributeBase o "items" X.env (eval o X.env) = eval o X.env := by rfl) (hl : (apos.endLine == cpos.line) = true := by rfl) :
    PE X (.Call (.Attribute o "items" apos) [] [] cpos) (fun σ H Q => to σ H fun d H1 => ∃ (p : Addr) (es : DR), d = .ref p ∧ H1 p = some (dO X.w p es) ∧ ∀ r, H1 r = none → Q (.ref r) (upd H1 r (DX.itemsO r p))) := by
  refine ⟨fun pins s σ H Q I h => wpAny_Call_method0_late hb hl (thn (ho.run pins s σ H _ I h) fun v s1 ⟨x, H1, I1, r1, p, es, hx, hp, q1⟩ => ?_)⟩
  subst hx
  cases r1
  obtain ⟨t1, t2⟩ := dict_ty I1 hp
  obtain ⟨⟨hsys, _, _, _, ob, hg, hxd, hdat, _⟩, _, _⟩ := I1.hok p _ hp
  refine ⟨"dict", "dict.items", PySem.F.plainAttrs_dict, PySem.F.slot_dict_items, PySem.F.type_dict_items, t1, t2, Calls.callWith_builtin rfl (PySem.evalArgs_none ?_)⟩
  refine DT.callItems (es := es.en) (ep := es.ep) hsys ⟨ob, hg, hxd, hdat⟩ ?_
  have hf := I1.hok.fresh (Nat.le_refl s1.heap.objs.size)
  exact ⟨.ref s1.heap.objs.size, upd H1 s1.heap.objs.size (DX.itemsO s1.heap.objs.size p), I1.laid (t' := s1.toks) (fun b u e => Heap.get?_push_of_some _ e) (Nat.le_refl _) (DX.itemsO_ok (Heap.get?_push_size _ rfl)), rfl, q1 _ hf⟩
def sortItems : D → M D
  | .dict kvs => if srtOk (itemsD kvs) = true ∧ plainP (itemsD kvs) = true then mok (.list (srt (itemsD kvs))) else none
  | _ => none
def rSI (X : Cx) : List V → Hp → VK → Prop := fun vs H Q => ∃ (r p : Addr) (es : DR) (F : Hp) (kvs : List (D × D)), vs = [.ref r] ∧ Same F H ∧ H r = some (DX.itemsO r p) ∧ H p = some (dO X.w p es) ∧ RpE X.K X.w F es.es kvs ∧ srtOk (itemsD kvs) = true ∧ plainP (itemsD kvs) = true ∧
  ∀ v F' H', Ext F H F' H' → RM X.K X.w H F' H' .o v (.list (srt (itemsD kvs))) → Q v H'
theorem cr_SI (hc : X.calm = true) (hu : X.A.units + 64 < cLine) : CallR X (.builtin "sorted") (rSI X) := by
  intro pins s σ H xs us Q I r h
  obtain ⟨b, p, es, F, kvs, rfl, sm, h1, h2, h3, h4, h5, q⟩ := h
  obtain rfl := Vals.ref1 r
  exact sortItems_at I hc sm h1 h2 h3 h5 hu h4 q
theorem de_sortItems {k : Nat} (hc : X.calm = true) (hr : Room k X.A) (hg : Gl X "sorted") (hm : X.mg "sorted" = none) (ho : DE X W .s o fo)
    (hb : attributeBase o "items" X.env (eval o X.env) = eval o X.env := by rfl) (hl : (apos.endLine == cpos.line) = true := by rfl)
    (he : starEach [.Call (.Attribute o "items" apos) [] [] cpos] X.env = (false, eval (.Call (.Attribute o "items" apos) [] [] cpos) X.env) :: starEach [] X.env := by rfl) (hpl : (backTo pos (starEach [] X.env)).any (·.1) = false := by rfl) :
    DE X W .o (.Call (.Name "sorted" pn) [.Call (.Attribute o "items" apos) [] [] cpos] [] pos) (d1 sortItems fo) := by
  obtain ⟨to, ho, qo⟩ := ho
  refine ⟨_, pe_callB (cr_SI hc hr.units) hg hm (by decide +kernel) (pa_cons (pe_itemsD ho hb hl) pa_nil he) (by decide) (by decide) he hpl, fun B F H σ env Q ok h => qo B F H σ env _ ok (h.bind.mono (fun d k v F1 H1 x1 r1 => ?_) fun c k => k)⟩
  have r1 : Sh X.K X.w F1 H1 v d := r1
  cases d with
  | dict kvs =>
    obtain ⟨p, es, rfl, hp, re⟩ := r1.dict x1.fh
    refine ⟨p, es, rfl, hp, fun r hr0 => ?_⟩
    unfold sortItems at k
    simp only at k
    split at k
    · rename_i hs
      have x2 : Ext F1 H1 F1 (upd H1 r (DX.itemsO r p)) := Ext.newO x1.fh hr0
      refine ⟨r, p, es, F1, kvs, rfl, x2.fh, upd_same, x2.hh _ _ hp, re, hs.1, hs.2, fun v F' H' x3 r3 => k v F' H' (x1.trans (x2.trans x3)) ?_⟩
      obtain ⟨ow, a, rfl, h1, h2⟩ := r3
      refine ⟨ow, a, rfl, ?_, h2⟩
      have e1 : H1 a = none := x2.hh.free h1
      exact x1.hh.free e1
    · exact k.elim
  | _ => exact k.elim
/-! ### x in xs, a list or a tuple of data without dicts -/
end
end DL
namespace DL
open PySem PySem.Spec PyProof.Rows L2
def atom : D → Bool
  | .none => true
  | .bool _ => true
  | .int _ => true
  | .str _ => true
  | _ => false
def inL (ys : List D) (d : D) (neg : Bool) : M D := if atom d = true ∧ ys.all atom = true then mok (.bool (if neg then !ys.any (fun y => PyData.eqv y d) else ys.any fun y => PyData.eqv y d)) else none
def inX (neg : Bool) (d : D) : D → M D
  | .list ys => inL ys d neg
  | .tuple ys => inL ys d neg
  | .dict kvs => if keyOk d = true then mok (.bool (if neg then !(findD kvs d).isSome else (findD kvs d).isSome)) else none
  | _ => none
def inD : D → D → M D := inX false
def notInD : D → D → M D := inX true
theorem inX_ne (neg : Bool) (x y : D) (c : Value) : inX neg x y ≠ some (.error c) := by
  unfold inX inL
  split <;> first | (intro h; cases h; done) | (split <;> intro h <;> cases h)
theorem inD_ne (x y : D) (c : Value) : inD x y ≠ some (.error c) := inX_ne _ _ _ _
theorem notInD_ne (x y : D) (c : Value) : notInD x y ≠ some (.error c) := inX_ne _ _ _ _
section
variable {X : Cx}
theorem atom_flat {K : PySem.W.Frag} {w : World} {F H : Hp} {v : V} {d : D} (h : Sh K w F H v d) (a : atom d = true) : flatV v = true := by
  rcases h with h | ⟨a, e, ⟨vs, es, e1, e2, r⟩ | ⟨es, kvs, e1, e2, r⟩⟩
  · cases h <;> first | rfl | cases a
  · subst e1; cases a
  · subst e1; cases a
theorem atoms_flat {K : PySem.W.Frag} {w : World} {F : Hp} : ∀ {vs : List V} {ds : List D}, RpA K w F vs ds → ds.all atom = true → vs.all flatV = true
  | _, _, .nil, _ => rfl
  | _, _, .cons (d := d) (ds := ds) h t, a => by
    rw [List.all_cons, Bool.and_eq_true] at a
    rw [List.all_cons, atom_flat (F := F) (H := F) (.inl h) a.1, atoms_flat t a.2]
    rfl
theorem eqV_eqv {K : PySem.W.Frag} {w : World} {F H : Hp} {v u : V} {d e : D} (h : Rp K w F v d) (g : Sh K w F H u e) (a : atom d = true) (b : atom e = true) : eqV v u = PyData.eqv d e := by
  rcases g with g | ⟨a, e, ⟨vs, es, e1, e2, r⟩ | ⟨es, kvs, e1, e2, r⟩⟩
  · cases h <;> cases g <;> first | rfl | (cases a; done) | (cases b; done) | simp [eqV, PyData.eqv]
  · subst e1; cases b
  · subst e1; cases b
theorem inV_any {K : PySem.W.Frag} {w : World} {F H : Hp} {u : V} {e : D} (g : Sh K w F H u e) (b : atom e = true) : ∀ {vs : List V} {ds : List D}, RpA K w F vs ds → ds.all atom = true → inV u vs = ds.any fun y => PyData.eqv y e
  | _, _, .nil, _ => rfl
  | _, _, .cons (d := d) (ds := ds) h t, a => by
    rw [List.all_cons, Bool.and_eq_true] at a
    have ih := inV_any g b t a.2
    unfold inV at ih ⊢
    rw [List.any_cons, List.any_cons, eqV_eqv h g a.1 b, ih]
theorem in_at (hu : X.A.units + 64 < cLine) (neg : Bool) : OpR X (compareOp (if neg then .NotIn else .In)) (rD X .v (inX neg)) := by
  intro pins s σ H x y v u Q I rx ry h
  obtain ⟨F, d, e, sm, sx, sy, h⟩ := h
  have seqs : ∀ {ys : List D} {p : Addr} {vs : List V}, (SqL X.K H p vs ∨ SqT X.K H p vs) → RpA X.K X.w F vs ys → y = .ref p → Ans (inL ys d neg) (fun z => ∀ v F' H', Ext F H F' H' → RM X.K X.w H F' H' .v v z → Q v H') (fun _ => False) → wpAny (model X.prog X.w) X.A (compareOp (if neg then .NotIn else .In) v u) (EP X pins σ Q) X.xe s := by
    intro ys p vs hq ra ey k
    unfold inL at k
    split at k
    · rename_i hc
      have q := k (.bl _) F H (.refl sm) (.bl _)
      have fx := atom_flat sx hc.1
      have fs := atoms_flat ra hc.2
      have e := inV_any sx hc.1 ra hc.2
      cases neg with
      | false => exact op_in_seq pins s σ H x y v u Q I rx ry ⟨p, vs, ey, hq, fx, fs, by rw [e]; exact q⟩
      | true => exact op_notIn_seq pins s σ H x y v u Q I rx ry ⟨p, vs, ey, hq, fx, fs, by rw [e]; exact q⟩
    · exact k.elim
  unfold inX at h
  split at h
  · obtain ⟨p, vs, ey, hp, ra⟩ := sy.list sm
    exact seqs (.inl hp) ra ey h
  · obtain ⟨p, vs, ey, hp, ra⟩ := sy.tuple sm
    exact seqs (.inr hp) ra ey h
  · split at h
    · rename_i hk
      obtain ⟨ks, rfl, hdp⟩ := keyOk_key hk
      obtain ⟨p, es, rfl, hp, re⟩ := sy.dict sm
      cases ry
      have rk : Rp X.K X.w F x (NestedKey.tup ks).data := by
        rcases sx with g | ⟨a, e, ⟨vs, es, e1, e2, r⟩ | ⟨es, kvs, e1, e2, r⟩⟩
        · exact g
        · rw [NestedKey.data] at e1; cases e1
        · rw [NestedKey.data] at e1; cases e1
      obtain ⟨c, rfl, rfl, hkey⟩ := key_is I sm rk rx hdp
      obtain ⟨hd, _, xs, hm, px⟩ := dict_of I sm hp re
      have q := h (.bl _) F H (.refl sm) (.bl _)
      have eq : ∀ {kvs : List (D × D)}, RpE X.K X.w F es.es kvs → (findD kvs (NestedKey.tup ks).data).isSome = (atKey xs (.tup ks)).isSome := by
        intro kvs re
        rcases find_rel (k := .tup ks) re px with ⟨h1, h2, _⟩ | ⟨d', b', u', v', h1, h2, h3, h4, _⟩
        · rw [h1, h2]; rfl
        · rw [h1, h2]; rfl
      have hroom : (nestedKind X.prog X.w).room X.A.in1 := by show X.A.units + 1 + 8 < cLine; omega
      cases neg with
      | false => exact wpAny_in_heap hroom hkey hd hm ⟨.bl _, H, I.tok _, by rw [← eq re]; rfl, q⟩
      | true =>
        show wpAny (model X.prog X.w) X.A (contains (.ref p) (.ref c) >>= fun b => pure (Value.bool (!b))) (EP X pins σ Q) X.xe s
        exact wpAny_bind (wpAny_contains_heap hroom hkey hd hm (wpAny_pure ⟨.bl _, H, I.tok _, by rw [← eq re]; rfl, q⟩))
    · exact h.elim
  · exact h.elim
theorem op_inV (hu : X.A.units + 64 < cLine) : OpR X (compareOp .In) (rD X .v inD) := in_at hu false
theorem op_notInV (hu : X.A.units + 64 < cLine) : OpR X (compareOp .NotIn) (rD X .v notInD) := in_at hu true
end
end DL

/-! The data layer: zip(a list, range(n)). -/
namespace DL
open PySem PySem.Spec PyProof.Rows L2
section
variable {prog : Program} {w : World} {A : Around} {E : Value → Shared → Prop} {s : Shared}
theorem nextOf_rng {it : Addr} {x left : Int} {Q : Value → Shared → Prop} (hit : IsRangeIter s.heap it x left 1) (hl : 0 < left)
    (hQ : ∀ h', IsRangeIter h' it (x + 1) (left - 1) 1 → Heap.SameBut it s.heap h' → Q (.int x s.toks) { s with heap := h', toks := s.toks + 1 }) :
    wpAny (model prog w) A (Builtin.SmallTypes.nextOf (.ref it)) Q E s := by
  have hT : s.TypeIs (.ref it) "range_iterator" := ⟨_, hit, rfl⟩
  unfold Builtin.SmallTypes.nextOf
  refine wpAny_bind (wpAny_callSpecial?_slot (name := Str.ofString "__next__") hT PySem.F.slot_range_iterator_next
    (call_meets PySem.F.slot_range_iterator_next hT PySem.F.entry_range_iterator_next (PySem.F.args_range_iterator_next_1 _) (AutoRange.range_iterator___next___range_iterator_1 it x left 1 (by omega)) ⟨hit, ?_⟩))
  exact wpAny_pure (hQ _ (Heap.get?_update_self _ (Heap.get?_update_self _ hit rfl) rfl) ((Heap.SameBut.update ..).trans (Heap.SameBut.update ..)))
theorem endOf_rng {it : Addr} {x left : Int} {Q : Value → Shared → Prop} (hh : A.handled = none) (hit : IsRangeIter s.heap it x left 1) (hl : left ≤ 0)
    (hE : ∀ h' e, Heap.ExtBut it s.heap h' → (∃ o, h'.get? e = some o ∧ o.cls = .type "StopIteration") → E (.ref e) { s with heap := h' }) :
    wpAny (model prog w) A (Builtin.SmallTypes.nextOf (.ref it)) Q E s := by
  have hT : s.TypeIs (.ref it) "range_iterator" := ⟨_, hit, rfl⟩
  unfold Builtin.SmallTypes.nextOf
  refine wpAny_bind (wpAny_callSpecial?_slot (name := Str.ofString "__next__") hT PySem.F.slot_range_iterator_next
    (wpAny_call_entry PySem.F.slot_range_iterator_next hT PySem.F.entry_range_iterator_next ?_ (PySem.F.args_range_iterator_next_1 _)))
  refine wpAny_bind (m := field (.ref it) 0) (wpAny_field hit rfl (x := rawInt x) rfl ?_)
  refine wpAny_bind (m := field (.ref it) 1) (wpAny_field hit rfl (x := rawInt left) rfl ?_)
  refine wpAny_bind (m := field (.ref it) 2) (wpAny_field hit rfl (x := rawInt 1) rfl ?_)
  show wpAny _ _ (if left ≤ 0 then _ else _) _ _ s
  rw [if_pos hl]
  refine wpAny_bind (wpAny_rule (wpAny_bind ?_))
  refine wpAny_bind (m := newExc (.type "StopIteration") []) ?_
  simp only [newExc, newTuple]
  refine wpAny_bind (wpAny_newObj_type ?_ (by size_fits))
  refine wpAny_bind (m := firstArgMember _ _) (wpAny_of_eq (a := Value.none) (by first | rfl | (simp only [firstArgMember]; rfl)) (wpAny_newObj_type ?_ (by size_fits)))
  simp only [raiseNew]
  refine wpAny_bind (wpAny_handled ?_)
  first | rw [show A.in1.handled = none from hh] | rw [hh]
  refine wpAny_bind (wpAny_pure (wpAny_throw ?_))
  exact hE _ _ (((Heap.ExtBut.refl it s.heap).push _).push _) ⟨_, Heap.get?_push_size _ rfl, rfl⟩
theorem draws_rng (hh : A.handled = none) (it : Addr) (lo : Int) (n : Nat) : Draws prog w A it [it] n (fun i v => ∃ t : Tok, v = Value.int (lo + (i : Nat)) t) (fun i h => IsRangeIter h it (lo + (i : Nat)) ((n : Int) - (i : Nat)) 1) where
  live := fun _ _ st => ⟨_, st⟩
  frame := fun _ _ _ st hk => hk it (by simp) _ st
  item := fun i s Q E hi st hQ => by
    refine nextOf_rng st (by omega) fun h' st' hs => hQ _ h' _ ⟨_, rfl⟩ ?_ hs
    have e1 : lo + ((i + 1 : Nat) : Int) = lo + (i : Nat) + 1 := by omega
    have e2 : (n : Int) - ((i + 1 : Nat) : Int) = (n : Int) - (i : Nat) - 1 := by omega
    rw [e1, e2]
    exact st'
  done := fun s Q E st hE => endOf_rng hh st (by omega) hE
end
end DL
namespace DL
open PySem PySem.Spec PyProof.Rows L2
/-- the list at a beside lo, lo + 1, .. (n of them), in new pairs -/
def ItzR (K : PySem.W.Frag) (a : Addr) (n : Nat) : It :=
  ⟨fun i H => ∃ (xs : List V) (x : V), SqL K H a xs ∧ xs[i]? = some x ∧ i < n, fun i H v H' => ∃ T x, v = .ref T ∧ H T = none ∧ H' = upd H T (.tup [x, .int (i : Nat)]) ∧ ∀ xs, SqL K H a xs → xs[i]? = some x,
    fun i H => ∃ xs : List V, SqL K H a xs ∧ i = min xs.length n⟩
theorem turn_zipR {P : Program} {w : World} {K : PySem.W.Frag} {elts : List Expr} {kk : Nat} {tpos : Pos} {a z TI TO i1 i2 : Addr} (n : Nat) (S : ZipSep2 z TI TO i1 i2 [i1, a] [i2]) :
    Turn P w K (.Tuple elts kk tpos) (ItzR K a n) [z, TI, TO, i1, i2] z (fun i h => IsZip h z TI TO .none ∧ IsTupOf2 h TI (.ref i1) (.ref i2) ∧ (∃ x y, IsTupOf2 h TO x y) ∧ h.IsListIter i1 a i ∧ IsRangeIter h i2 (0 + (i : Nat)) ((n : Int) - (i : Nat)) 1) where
  mem := by simp
  obj := fun i h st c hc => by
    obtain ⟨g1, g2, ⟨x, y, g3⟩, ⟨o1, e1, _, d1⟩, g5⟩ := st
    simp only [List.mem_cons, List.not_mem_nil, or_false] at hc
    rcases hc with rfl | rfl | rfl | rfl | rfl
    · exact ⟨_, g1, fun v q => nomatch q⟩
    · exact ⟨_, g2, fun v q => nomatch q⟩
    · exact ⟨_, g3, fun v q => nomatch q⟩
    · exact ⟨o1, e1, fun v q => by rw [d1] at q; cases q⟩
    · exact ⟨_, g5, fun v q => nomatch q⟩
  keep := fun i h h' st k => by
    obtain ⟨g1, g2, ⟨x, y, g3⟩, g4, g5⟩ := st
    exact ⟨k z (by simp) _ g1, k TI (by simp) _ g2, ⟨x, y, k TO (by simp) _ g3⟩, g4.at fun o q => k i1 (by simp) o q, k i2 (by simp) _ g5⟩
  item := by
    intro X hP hw hK hc i pins s σ H E I hf st hg
    subst hP hw hK
    obtain ⟨g1, g2, ⟨x0, y0, g3⟩, g4, g5⟩ := st
    obtain ⟨xs, x, hq, hx, hi⟩ := hg
    obtain ⟨its, rv, p, _⟩ := I.list hq
    obtain ⟨u, hu, ru⟩ := rv.get hx
    have hzl : z < s.heap.objs.size := Heap.lt_size g1
    have hh : X.A.in1.handled = none := I.ok.hd hc
    have hli : i < its.toArray.size := by rw [List.size_toArray]; exact (List.getElem?_eq_some_iff.mp hu).1
    have ha1 : a ≠ i1 := fun e => by
      have := (hf i1 (by simp)).1
      obtain ⟨o, n1, ho, hcl, _⟩ := p
      obtain ⟨o2, ho2, hcl2, _⟩ := g4
      rw [e, ho2] at ho
      cases ho
      rw [hcl2] at hcl
      exact absurd hcl (by decide)
    refine wpAny_pyNext_zipD2_item S (Draws.list hh i1 a ha1 its.toArray) (draws_rng hh i2 0 n) g1 g2 g3 ⟨g4, p.isList⟩ g5 hli hi fun x1 x2 h' tk y1 y2 b1 b2 d1 d2 b5 b6 hk => ?_
    have e1 : x1 = u := by
      have : its[i]? = some x1 := by simpa using y1
      rw [hu] at this
      exact (Option.some.inj this).symm
    subst e1
    obtain ⟨t, rfl⟩ := y2
    refine ⟨_, rfl, wpAny_letOwnedTupleGo_zip (s := { s with heap := h', toks := tk }) b1 fun h'' z'' sb => ?_⟩
    have hT2 : h''.get? s.heap.objs.size = some { cls := .type "tuple", data := .seq #[x1, .int (0 + (i : Nat)) t] } := (sb.2 _ (Nat.ne_of_gt hzl)).trans b5
    have new : ObjOk X.prog X.w (upd H s.heap.objs.size (.tup [x, .int (i : Nat)])) h'' s.heap.objs.size (.tup [x, .int (i : Nat)]) :=
      ⟨by show 2 ≤ sizeLine; decide, [x1, .int (0 + (i : Nat)) t], .cons ru (.cons ⟨t, by rw [Int.zero_add]⟩ .nil), ⟨_, hT2, rfl, _, rfl⟩⟩
    have I1 := I.turnedNew (h' := h'') (t' := tk) (ch := [z, TI, TO, i1, i2]) (fun c o hb q => (sb.2 c (fun q' => hb (by simp [q']))).trans (hk c o (fun q' => hb (by simp [q'])) (fun q' => hb (by simp [q'])) (fun q' => hb (by simp [q'])) (fun q' => hb (by simp [q'])) q)) hf (Nat.le_refl _) new
    refine ⟨.ref s.heap.objs.size, _, I1, rfl, ⟨_, x, rfl, I.hok.fresh (Nat.le_refl _), rfl, fun l hl => by rw [I.list_inj hl hq]; exact hx⟩, ⟨z'', ?_, ⟨x1, .int (0 + (i : Nat)) t, ?_⟩, ?_, ?_⟩, fun c hcm => ?_⟩
    · exact (sb.2 _ S.TIz).trans (hk _ _ S.TIz S.TITO S.TIi1 S.TIi2 g2)
    · exact (sb.2 _ S.TOz).trans b2
    · exact d1.1.at fun o q => (sb.2 _ S.zi1.symm).trans q
    · exact (sb.2 _ S.zi2.symm).trans d2
    · have hlt : c < s.heap.objs.size := by
        simp only [List.mem_cons, List.not_mem_nil, or_false] at hcm
        rcases hcm with rfl | rfl | rfl | rfl | rfl
        · exact hzl
        · exact Heap.lt_size g2
        · exact Heap.lt_size g3
        · obtain ⟨_, e1, _⟩ := g4; exact Heap.lt_size e1
        · exact Heap.lt_size g5
      rw [upd_ne (Nat.ne_of_lt hlt)]
      exact (hf c hcm).1
  done := by
    intro X hP hw hK hc i pins s σ H E I hf st hg
    subst hP hw hK
    obtain ⟨g1, g2, ⟨x0, y0, g3⟩, g4, g5⟩ := st
    obtain ⟨xs, hq, hi⟩ := hg
    obtain ⟨its, rv, p, _⟩ := I.list hq
    have l1 := rv.length
    have hh : X.A.in1.handled = none := I.ok.hd hc
    have ha1 : a ≠ i1 := fun e => by
      obtain ⟨o, n1, ho, hcl, _⟩ := p
      obtain ⟨o2, ho2, hcl2, _⟩ := g4
      rw [e, ho2] at ho
      cases ho
      rw [hcl2] at hcl
      exact absurd hcl (by decide)
    refine wpAny_pyNext_zipD2_end S (Draws.list hh i1 a ha1 its.toArray) (draws_rng hh i2 0 n) g1 g2 g3 ⟨g4, p.isList⟩ g5 (by rw [List.size_toArray]; omega) (by omega) (by rw [List.size_toArray]; omega) fun h' tk hk => ⟨rfl, I.turnedL (t' := tk) (ch := [z, TI, TO, i1, i2]) (fun c o hb q => hk c o (fun q' => hb (by simp [q'])) (fun q' => hb (by simp [q'])) (fun q' => hb (by simp [q'])) (fun q' => hb (by simp [q'])) q) hf⟩
  self := fun A i s Q E st h => wpAny_pyIter_zip st.1 h
end DL
namespace DL
open PySem PySem.Spec PyProof.Rows L2
theorem begins_rng (r : Addr) (j : Int) (t u v : Tok) (h3 : -(2 ^ 62) ≤ j) (h4 : j < 2 ^ 62) : Begins (.ref r) { cls := .type "range_iterator", data := .fields #[rawInt 0, rawInt (Builtin.Range.rangeSize 0 j 1), rawInt 1] } (fun h => IsRange h r 0 j 1 t u v) where
  iter := fun prog w A E s Q hr h => wpAny_pyIter_range hr (small_one (by omega) (by omega) h3 h4) h
  keeps := fun h h' x hk => hk r _ x
  free := rfl
section
variable {X : Cx} {W : WX} {e b : Expr} {fe fb : DEnv → M D} {p p2 pos pos2 tpos : Pos} {elts : List Expr} {kk : Nat}
theorem cr_rng1 : CallR X (.type "range") (fun vs H Q => ∃ j : Int, vs = [V.int j] ∧ ∀ q, H q = none → Q (.ref q) (upd H q (.rng 0 j))) := by
  intro pins s σ H vs us Q I r h
  obtain ⟨j, rfl, q⟩ := h
  obtain ⟨u1, rfl, rj⟩ := vals1 r
  obtain ⟨t, rfl⟩ := rj
  refine call_range_1 ⟨.ref s.heap.objs.size, upd H s.heap.objs.size (.rng 0 j), I.laid (t' := s.toks + 1 + 1) (fun b o e => Heap.get?_push_of_some _ e) (Nat.le_refl _) ⟨s.toks, t, s.toks + 1, Heap.get?_push_size _ rfl⟩, rfl, q _ (I.hok.fresh (Nat.le_refl _))⟩
def iZipR (K : PySem.W.Frag) (ta : TA) : TI := fun σ H R => ta σ H fun vs H1 => ∃ (a r : Addr) (xs : List V) (j : Int), vs = [.ref a, .ref r] ∧ SqL K H1 a xs ∧ H1 r = some (.rng 0 j) ∧ -(2 ^ 62) ≤ j ∧ j < 2 ^ 62 ∧ R (ItzR K a j.toNat) H1
theorem pi_zipR {e2 : Expr} {ta : TA} (hg : Gl X "zip") (hm : X.mg "zip" = none) (ha : PA X [e, e2] ta)
    (hs : starEach [e, e2] X.env = (false, eval e X.env) :: starEach [e2] X.env := by rfl) (hpl : (backTo pos (starEach [e2] X.env)).any (·.1) = false := by rfl) :
    PI X (.Tuple elts kk tpos) (.Call (.Name "zip" p) [e, e2] [] pos) (iZipR X.K ta) := by
  refine ⟨fun pins s σ H R I h => Call_ (ld_blt I hg hm PyProof.Rows.boot_zip (PyProof.Rows.callWith_type1 (thn (ha.run pos pins s σ H _ I h) fun us s1 ⟨vs, H1, I1, r1, a, r, xs, j, ex, hq, hr, j1, j2, q⟩ => ?_) hs hpl))⟩
  subst ex
  cases r1 with
  | cons ra rr =>
    cases rr with
    | cons rb rr =>
      cases rr
      cases ra
      cases rb
      obtain ⟨its, rv, p1, _⟩ := I1.list hq
      obtain ⟨t, u, v, ho⟩ := (show ObjOk X.prog X.w H1 s1.heap r (.rng 0 j) from I1.hok r _ hr)
      have hal : a < s1.heap.objs.size := p1.lt
      refine zip_begins2 (begins_list a its.toArray) (begins_rng r j t u v j1 j2) p1.isList ho fun h' c1 c2 c3 c4 c5 c6 hk => wpAny_pyIter_zip c1 ?_
      have I2 : Inv X pins σ H1 { s1 with heap := h' } := I1.kept (t' := s1.toks) hk
      refine ⟨s1.heap.objs.size + 4, [s1.heap.objs.size + 4, s1.heap.objs.size + 2, s1.heap.objs.size + 3, s1.heap.objs.size, s1.heap.objs.size + 1], _, _, H1, rfl, I2, turn_zipR j.toNat (zip_sep2 (fp1 := [a]) (fp2 := []) (fun b hb => by rw [List.mem_singleton.mp hb]; exact hal) (fun b hb => by cases hb)), ⟨c1, c2, ⟨_, _, c3⟩, ⟨_, c4, rfl, rfl⟩, ?_⟩, fun c hcm => ?_, q⟩
      · have e1 : (0 : Int) + ((0 : Nat) : Int) = 0 := by omega
        have e2 : ((j.toNat : Nat) : Int) - ((0 : Nat) : Int) = Builtin.Range.rangeSize 0 j 1 := by rw [rangeSize_one]; split <;> omega
        show IsRangeIter h' (s1.heap.objs.size + 1) (0 + ((0 : Nat) : Int)) (((j.toNat : Nat) : Int) - ((0 : Nat) : Int)) 1
        rw [e1, e2]
        exact c5
      · have hle : s1.heap.objs.size ≤ c := by
          simp only [List.mem_cons, List.not_mem_nil, or_false] at hcm
          rcases hcm with h | h | h | h | h <;> rw [h] <;> first | exact Nat.le_add_right _ _ | exact Nat.le_refl _
        exact I1.fpOk hle (I1.hok.fresh hle)
def zipRL (l : List D) (n : Nat) : List D := (l.zip (List.range n)).map fun q => PyData.tuple [q.1, .int (q.2 : Nat)]
theorem zipRL_get {l : List D} {n i : Nat} {d : D} (h : (zipRL l n)[i]? = some d) : ∃ x, l[i]? = some x ∧ i < n ∧ d = .tuple [x, .int (i : Nat)] := by
  unfold zipRL at h
  rw [List.getElem?_map] at h
  obtain ⟨q, h1, rfl⟩ := Option.map_eq_some_iff.mp h
  obtain ⟨h2, h3⟩ := List.getElem?_zip_eq_some.mp h1
  obtain ⟨h4, h5⟩ := List.getElem?_eq_some_iff.mp h3
  rw [List.length_range] at h4
  rw [List.getElem_range] at h5
  exact ⟨q.1, h2, h4, by rw [← h5]⟩
theorem zipRL_len (l : List D) (n : Nat) : (zipRL l n).length = min l.length n := by simp [zipRL]
def zipRX (l : List D) : D → M (List D)
  | .int j => if j.natAbs < 4611686018427387904 then mok (zipRL l j.toNat) else none
  | _ => none
def dZipR (f g : DEnv → M D) (env : DEnv) : M (List D) := mbind (f env) fun x => match x with
  | .list l => mbind (g env) (zipRX l)
  | _ => none
theorem di_zipR (hg : Gl X "zip") (hm : X.mg "zip" = none) (hg2 : Gl X "range") (hm2 : X.mg "range" = none) (he : DE X W .v e fe) (hb : DE X W .v b fb)
    (hs : starEach [e, .Call (.Name "range" p2) [b] [] pos2] X.env = (false, eval e X.env) :: starEach [.Call (.Name "range" p2) [b] [] pos2] X.env := by rfl) (hpl : (backTo pos (starEach [.Call (.Name "range" p2) [b] [] pos2] X.env)).any (·.1) = false := by rfl)
    (hs2 : starEach [.Call (.Name "range" p2) [b] [] pos2] X.env = (false, eval (.Call (.Name "range" p2) [b] [] pos2) X.env) :: starEach [] X.env := by rfl)
    (hs3 : starEach [b] X.env = (false, eval b X.env) :: starEach [] X.env := by rfl) (hpl3 : (backTo pos2 (starEach [] X.env)).any (·.1) = false := by rfl) :
    DI X W (.Tuple elts kk tpos) (.Call (.Name "zip" p) [e, .Call (.Name "range" p2) [b] [] pos2] [] pos) (dZipR fe fb) := by
  obtain ⟨te, he, qe⟩ := he
  obtain ⟨tb, hb, qb⟩ := hb
  refine ⟨_, pi_zipR hg hm (pa_cons he (pa_cons (pe_callTy cr_rng1 hg2 hm2 (by decide +kernel) (pa_cons hb pa_nil hs3) (by decide) (by decide) hs3 hpl3) pa_nil hs2) hs) hs hpl, fun B F H σ env R ok h => qe B F H σ env _ ok (h.bind.mono (fun d k v F1 H1 x1 r1 => ?_) fun c k => k)⟩
  have r1 : Rp X.K X.w F1 v d := r1
  cases r1 with
  | lst h1 ra =>
    rename_i a xs ds
    have k : Ans (mbind (fb env) (zipRX ds)) _ _ := k
    refine qb B F1 H1 σ env _ (ok.mono x1) (k.bind.mono (fun dj k u F2 H2 x2 r2 => ?_) fun c k F' H' e => k F' H' (x1.trans e))
    have r2 : Rp X.K X.w F2 u dj := r2
    cases r2 with
    | int j =>
      unfold zipRX at k
      simp only at k
      split at k
      · rename_i hj
        refine ⟨j, rfl, fun r hr => ⟨a, r, xs, j, rfl, ?_, upd_same, by omega, by omega, ?_⟩⟩
        · exact (x2.fh.trans (same_upd hr)).seq (x2.ff.seq h1)
        · have x3 : Ext F2 H2 F2 (upd H2 r (.rng 0 j)) := Ext.newO x2.fh hr
          refine k _ F2 _ (x1.trans (x2.trans x3)) ⟨fun F3 H3 i d1 s1 s2 hd => ?_, fun F3 H3 s1 s2 => ?_⟩
          · obtain ⟨z, e1, hi, rfl⟩ := zipRL_get hd
            have hq := (s1.trans s2).seq (x2.ff.seq h1)
            obtain ⟨w1, g1, g2⟩ := ra.get e1
            refine ⟨⟨_, w1, hq, g1, hi⟩, fun y1 H4 yy => ?_⟩
            obtain ⟨T, w2, rfl, hT, rfl, y⟩ := yy
            have e3 := (y _ hq).symm.trans g1
            cases e3
            have x4 := Ext.newF (o := .tup [w1, .int (i : Nat)]) s2 hT
            exact ⟨_, x4, .tup (.inl (.inl upd_same)) (.cons (((g2.mono x2.ff).mono s1).mono x4.ff) (.cons (.int _) .nil)) fun z => by
              rw [fmk_int2] at z
              cases z⟩
          · exact ⟨_, (s1.trans s2).seq (x2.ff.seq h1), by rw [zipRL_len, ra.length]⟩
      · exact k.elim
    | _ => exact k.elim
  | _ => exact k.elim
end
end DL
namespace DL
open PySem PySem.Spec PyProof.Rows L2
section
variable {prog : Program} {w : World} {A : Around} {E : Value → Shared → Prop} {s : Shared}
/-- a new empty list takes the items of reversed(a list) -/
theorem extend_rev {R : Result → Shared → Prop} {it l S : Addr} {xs : Array Value} {res : Value} {c₀ : Nat} (hh : A.handled = none) (hit : s.heap.IsRevIter it l ((xs.size : Int) - 1)) (hl : s.heap.IsList l xs) (hne : l ≠ it) (hn : xs.size ≤ sizeLine) (hSi : S ≠ it) (hSl : S ≠ l)
    (hS : s.heap.get? S = some { cls := .type "list", data := .seq #[] c₀ })
    (hR : ∀ (h' : Heap) (tk : Nat) (acc : Array Value) (c : Nat), (∀ b o, b ≠ S → b ≠ it → s.heap.get? b = some o → h'.get? b = some o) → h'.get? S = some { cls := .type "list", dict := none, data := .seq acc c, slots := #[] } → ItemsOf (fun i v => xs[xs.size - 1 - i]? = some v) acc xs.size → R (.ok (.ret res)) { s with heap := h', toks := tk }) :
    wpAny (model prog w) A.in1 (Builtin.List.listExtendWith (.ref S) (.ref it) res) (fun fin s' => match fin with | .done f => R (.ok f) s' | .again c' => c'.quiet = true ∧ codeAny (model prog w) A c' R s') (fun e s' => R (.error e) s') s := by
  have W := (Walks.listRev (prog := prog) (w := w) (A := A.in1) hh it l hne xs).toS
  have hSf : S ∉ [it, l] := by simp only [List.mem_cons, List.not_mem_nil, or_false, not_or]; exact ⟨hSi, hSl⟩
  have hT : s.TypeIs (.ref it) "list_reverseiterator" := Heap.IsRevIter.typeIs hit
  have h1 : Builtin.List.listSameRef (.ref S) (.ref it) = false := by simp [Builtin.List.listSameRef, hSi]
  unfold Builtin.List.listExtendWith
  refine wpAny_bind (wpAny_typeOf hT ?_)
  rw [if_neg (by rw [h1]; decide)]
  refine wpAny_bind (wpAny_pyIter_revIter hit (wpAny_bind (wpAny_holding ?_)))
  unfold Builtin.List.listLengthHint
  refine wpAny_bind (wpAny_specialOf hT RT.nolen_lri ?_)
  show wpAny (model prog w) A.in1 (specialOf (.ref it) (Str.ofString "__length_hint__") >>= _) _ _ s
  refine wpAny_bind (wpAny_specialOf hT RT.hint_lri ?_)
  generalize hid : ("list_reverseiterator.__length_hint__" : String) = id0
  wp_delta
  rw [show splitId id0 = some ("list_reverseiterator", "__length_hint__") from by subst hid; decide +kernel]
  subst hid
  refine wpAny_bind (wpAny_isInstance (b := true) hT (by rw [isSubtype_type]; kernel_rfl) (wpAny_pure ?_))
  rw [if_neg (by decide)]
  have e0 : ((xs.size : Nat) : Int) - 1 - ((0 : Nat) : Int) = (xs.size : Int) - 1 := by omega
  refine wpAny_pure ⟨plainId_quiet PySem.F.plain_extend_loop _, codeAny_extend_loopS W hn _ hSf _ xs.size 0 _ _ _ rfl (Nat.zero_le _) ⟨Nat.zero_le _, by rw [e0]; exact hit, hl⟩ hS (ItemsOf.nil _) fun s' acc' c' hm hS' hacc => ?_⟩
  rw [Moved.eq_with hm]
  refine hR s'.heap s'.toks acc' c' (fun b o hb hb2 e => hm.heap b o (fun hmem => ?_) e) hS' hacc
  rcases List.mem_cons.mp hmem with e' | hmem
  · exact hb e'
  · exact hb2 (List.mem_singleton.mp hmem)
theorem call_list_rev {it l : Addr} {xs : Array Value} {Q : Value → Shared → Prop} (hh : A.handled = none) (hit : s.heap.IsRevIter it l ((xs.size : Int) - 1)) (hl : s.heap.IsList l xs) (hne : l ≠ it) (hn : xs.size ≤ sizeLine)
    (hQ : ∀ (h' : Heap) (tk : Nat) (acc : Array Value) (c : Nat), (∀ b o, b ≠ it → s.heap.get? b = some o → h'.get? b = some o) → h'.get? s.heap.objs.size = some { cls := .type "list", dict := none, data := .seq acc c, slots := #[] } → ItemsOf (fun i v => xs[xs.size - 1 - i]? = some v) acc xs.size → Q (.ref s.heap.objs.size) { s with heap := h', toks := tk }) :
    wpAny (model prog w) A (call (.type "list") [.ref it]) Q E s := by
  refine callType_codes (Q₁ := fun obj s₁ => obj = .ref s.heap.objs.size ∧ s₁ = { s with heap := s.heap.push { cls := .type "list", data := .seq #[] } }) PySem.F.called_list (PySem.F.typeCall_list_1 _) PySem.F.entry_list_init (code_list_new _ ⟨rfl, rfl⟩) fun obj s₁ h₁ => ?_
  obtain ⟨rfl, rfl⟩ := h₁
  have hS : (s.heap.push { cls := .type "list", data := .seq #[] }).get? s.heap.objs.size = some { cls := .type "list", data := .seq #[] } := Heap.get?_push_size _ rfl
  obtain ⟨oi, hoi, _⟩ := id hit
  obtain ⟨ol, hol, _⟩ := id hl
  have hSi : s.heap.objs.size ≠ it := Nat.ne_of_gt (Heap.lt_size hoi)
  have hSl : s.heap.objs.size ≠ l := Nat.ne_of_gt (Heap.lt_size hol)
  refine ⟨⟨_, hS, rfl⟩, PySem.F.args_list_init_2 _ _, ?_⟩
  show wpAny _ _ (Builtin.List.listItems (.ref s.heap.objs.size) >>= fun old => Builtin.List.listUpdate (.ref s.heap.objs.size) (fun _ => #[]) >>= fun _ => letGo old.toList.reverse >>= fun _ => Builtin.List.listExtendWith (.ref s.heap.objs.size) (.ref it) .none) _ _ _
  refine wpAny_bind ?_
  unfold Builtin.List.listItems
  refine wpAny_bind (wpAny_seqItems hS rfl (wpAny_pure ?_))
  refine wpAny_bind (m := updateSeq s.heap.objs.size (fun _ => #[])) (wpAny_updateSeq hS rfl (wpAny_bind (wpAny_letGo ?_)))
  have hS₂ := Heap.get?_update_self (Obj.mapSeq (fun _ => (#[] : Array Value))) hS rfl
  have oth : ∀ b o, b ≠ s.heap.objs.size → s.heap.get? b = some o → ((s.heap.push { cls := .type "list", data := .seq #[] }).update s.heap.objs.size (Obj.mapSeq (fun _ => (#[] : Array Value)))).get? b = some o :=
    fun b o hb e => (Heap.get?_update_other _ _ (Ne.symm hb)).trans (Heap.get?_push_of_some _ e)
  refine extend_rev (A := A.in1) hh (hit.at fun o e => oth it o (Ne.symm hSi) e) (hl.at fun o e => oth l o (Ne.symm hSl) e) hne hn hSi hSl hS₂ fun h' tk acc c hk hS' hacc => ?_
  exact ⟨rfl, hQ h' tk acc c (fun b o hb e => hk b o (Nat.ne_of_lt (Heap.lt_size e)) hb (oth b o (Nat.ne_of_lt (Heap.lt_size e)) e)) hS' hacc⟩
end
end DL
namespace DL
open PySem PySem.Spec PyProof.Rows L2
theorem RpA.reverse {K : PySem.W.Frag} {w : World} {F : Hp} : ∀ {vs : List V} {ds : List D}, RpA K w F vs ds → RpA K w F vs.reverse ds.reverse
  | _, _, .nil => .nil
  | _, _, .cons h t => by
    rw [List.reverse_cons, List.reverse_cons]
    exact RpA.append (RpA.reverse t) (.cons h .nil)
def revD : D → M D
  | .list xs => mok (.list xs.reverse)
  | _ => none
section
variable {X : Cx} {W : WX} {e : Expr} {fe : DEnv → M D} {p p2 pos pos2 : Pos}
theorem pe_listRev {te : TE} (hc : X.calm = true) (hg : Gl X "list") (hm : X.mg "list" = none) (hg2 : Gl X "reversed") (hm2 : X.mg "reversed" = none) (he : PE X e te)
    (hs : starEach [e] X.env = (false, eval e X.env) :: starEach [] X.env := by rfl)
    (hs2 : starEach [.Call (.Name "reversed" p2) [e] [] pos2] X.env = (false, eval (.Call (.Name "reversed" p2) [e] [] pos2) X.env) :: starEach [] X.env := by rfl) :
    PE X (.Call (.Name "list" p) [.Call (.Name "reversed" p2) [e] [] pos2] [] pos) (fun σ H Q => te σ H fun v H1 => ∃ a xs, v = .ref a ∧ SqL X.K H1 a xs ∧ ∀ q, H1 q = none → Q (.ref q) (upd H1 q (.lst xs.reverse))) := by
  refine ⟨fun pins s σ H Q I h => Call_ (ld_blt I hg hm (show bootBuiltins "list" = some (.type "list") by decide +kernel) (PyProof.Rows.callWith_type1 (args_cons (Call_ (ld_blt I hg2 hm2 PyProof.Rows.boot_reversed (PyProof.Rows.callWith_type1 (args_cons (thn (he.run pins s σ H _ I h) fun u s1 ⟨v, H1, I1, r1, a, xs, ev, hq, q⟩ => args_nil ?_) hs) hs rfl))) hs2) hs2 rfl))⟩
  subst ev
  obtain rfl : u = Value.ref a := r1
  obtain ⟨its, rv, pl, hz⟩ := I1.list hq
  have hl := pl.isList
  refine call_reversed_list hl (args_nil ?_)
  have k0 : ∀ b o, s1.heap.get? b = some o → (s1.heap.push (revObj a ((its.toArray.size : Int) - 1))).get? b = some o := fun b o e => Heap.get?_push_of_some _ e
  have I2 : Inv X pins σ H1 { s1 with heap := s1.heap.push (revObj a ((its.toArray.size : Int) - 1)) } := I1.kept (t' := s1.toks) k0
  obtain ⟨f0, f1, f2, f3, f4, f5⟩ := I1.fpOk (H' := H1) (b := s1.heap.objs.size) (Nat.le_refl _) (I1.hok.fresh (Nat.le_refl _))
  obtain ⟨ol, hol, _⟩ := id hl
  have hne : a ≠ s1.heap.objs.size := Nat.ne_of_lt (Heap.lt_size hol)
  refine call_list_rev (s := { s1 with heap := s1.heap.push (revObj a ((its.toArray.size : Int) - 1)) }) (I1.ok.hd hc) ⟨_, Heap.get?_push_size _ rfl, rfl, rfl⟩ (hl.push _) hne (by rw [List.size_toArray, ← rv.length]; exact hz) fun h' tk acc c hk hS' hi => ?_
  have I3 : Inv X pins σ H1 { s1 with heap := h', toks := tk } := I2.turned (t' := tk) (fun b o hb e => hk b o hb e) f0 f1 f3 f4 f5
  have hsz : (s1.heap.push (revObj a ((its.toArray.size : Int) - 1))).objs.size = s1.heap.objs.size + 1 := size_push' ..
  have hfr : H1 (s1.heap.push (revObj a ((its.toArray.size : Int) - 1))).objs.size = none := I1.hok.fresh (by rw [hsz]; exact Nat.le_succ _)
  refine ⟨.ref _, upd H1 (s1.heap.push (revObj a ((its.toArray.size : Int) - 1))).objs.size (.lst xs.reverse), ?_, rfl, q _ hfr⟩
  refine I3.take (t' := tk) (fun b ob _ e => e) (I1.fpOk (by rw [hsz]; exact Nat.le_succ _) hfr) ⟨by rw [List.length_reverse]; exact hz, acc.toList, c, RT.vals_rev rv hi, ?_⟩
  rw [Array.toArray_toList]
  exact hS'
theorem de_lrev (hc : X.calm = true) (hg : Gl X "list") (hm : X.mg "list" = none) (hg2 : Gl X "reversed") (hm2 : X.mg "reversed" = none) (he : DE X W .v e fe)
    (hs : starEach [e] X.env = (false, eval e X.env) :: starEach [] X.env := by rfl)
    (hs2 : starEach [.Call (.Name "reversed" p2) [e] [] pos2] X.env = (false, eval (.Call (.Name "reversed" p2) [e] [] pos2) X.env) :: starEach [] X.env := by rfl) :
    DE X W .o (.Call (.Name "list" p) [.Call (.Name "reversed" p2) [e] [] pos2] [] pos) (d1 revD fe) := by
  obtain ⟨te, he, qe⟩ := he
  refine ⟨_, pe_listRev hc hg hm hg2 hm2 he hs hs2, fun B F H σ env Q ok h => qe B F H σ env _ ok (h.bind.mono (fun d k v F1 H1 x1 r1 => ?_) fun c k => k)⟩
  have r1 : Rp X.K X.w F1 v d := r1
  cases r1 with
  | lst h1 ra =>
    refine ⟨_, _, rfl, x1.fh.seq h1, fun q hq => ?_⟩
    exact k (.ref q) F1 _ (x1.trans (Ext.newO x1.fh hq)) ⟨⟨q, rfl, .inl ⟨_, _, rfl, upd_same, RpA.reverse ra⟩⟩, q, rfl, x1.hh.free hq, x1.fh.free hq⟩
  | _ => exact k.elim
end
end DL

/-! The data layer: errors: raise, try .. except X as e, isinstance(e, C). -/
namespace DL
open PySem PySem.Spec PyProof.Rows L2
section
variable {X : Cx} {W : WX} {sts : List Stmt} {g : DEnv → Option Out}
def tDSs (K : PySem.W.Frag) (w : World) (hd : Option Value) (W : WX) (g : DEnv → Option Out) : TS := fun D σ H => ∃ (B : Bs hd) (F : Hp) (env : DEnv), EnvOk K w B F H σ env ∧ AnsO (g env) (OutOk K w B W D)
theorem DSs.pss (h : DSs X W sts g) : PSs X sts (tDSs X.K X.w X.A.handled W g) := by
  obtain ⟨t, h, q⟩ := h
  exact ⟨fun pins s σ H D I ⟨B, F, env, ok, a⟩ => h.run pins s σ H D I (q B F H σ env D ok a)⟩
/-! ### raise -/
def dRaise (c : Value) (env : DEnv) : Option Out := some (.xc c env)
/-- an own error class without own __init__, under ValueError -/
structure XcC (K : PySem.W.Frag) (C : Addr) : Prop where
  q : PySem.W.excIn K C HandSPX.veTail "ValueError.__new__" = true
  k : PySem.W.keepIn K (.ref C) = true
  c : ExcC K C
  t : PySem.W.typeIn K (.ref C) = some (.type "type")
theorem ds_raise {x m : Str} {j : _} {p p2 pos pos' : Pos} {C : Addr} (hc : X.calm = true) (tk : Takes X W) (E : XcC X.K C) (gC : X.mg x = some (.ref C)) (hg : Gl X x) (hdb : (x == ("__debug__" : Str)) = false := by decide) :
    DS X W (.Raise (some (.Call (.Name x p) [.Constant (.str m) j p2] [] pos)) none pos') (dRaise (.ref C)) :=
  ⟨_, ps_raise hc tk (pmk_own PySem.F.excBase_ValueError E.q gC E.k (raises_own E.c.hs E.t) hg hdb), fun B F H σ env D ok h => h F H σ ok⟩
/-! ### try .. except X as e -/
def noXp (env : DEnv) : Bool := env.all fun o => match o with
  | some .xp => false
  | _ => true
def backX (i : Nat) : Option Out → Option Out
  | some (.nx e) => if noXp (e.set i none) = true then some (.nx (e.set i none)) else none
  | some (.bk e) => if noXp (e.set i none) = true then some (.bk (e.set i none)) else none
  | some (.ct e) => if noXp (e.set i none) = true then some (.ct (e.set i none)) else none
  | some (.rt o d) => some (.rt o d)
  | _ => none
def catchX (i : Nat) (ca : Value → Option Bool) (gs : Value → DEnv → Option Out) (c : Value) (e : DEnv) : Option Out := match ca c with
  | none => none
  | some false => some (.xc c e)
  | some true => if noXp e = true then backX i (gs c (e.set i (some .xp))) else none
def dTry (i : Nat) (ca : Value → Option Bool) (gb : DEnv → Option Out) (gs : Value → DEnv → Option Out) (env : DEnv) : Option Out := match gb env with
  | some (.xc c e) => catchX i ca gs c e
  | o => o
theorem noXp_at {env : DEnv} (h : noXp env = true) {i : Nat} {s : Sl} (e : env[i]? = some (some s)) : s ≠ .xp := by
  rintro rfl
  have := List.all_eq_true.mp h (some .xp) (List.mem_of_getElem? e)
  cases this
theorem EnvOk.held {K : PySem.W.Frag} {w : World} {hd hd' : Option Value} {B : Bs hd} {F H : Hp} {σ : L2.St} {env : DEnv} (x : EnvOk K w B F H σ env) (h : noXp env = true) : EnvOk K w (⟨B.F, B.H, B.pin⟩ : Bs hd') F H σ env := by
  refine ⟨x.ext, x.len, fun i s e => ?_, x.ap⟩
  obtain ⟨v, h1, h2⟩ := x.sl i s e
  refine ⟨v, h1, ?_⟩
  cases s with
  | xp => exact absurd rfl (noXp_at h e)
  | fz d => exact h2
  | ow d => exact h2
  | pn d => exact h2
theorem EnvOk.setX {K : PySem.W.Frag} {w : World} {a : Addr} {B : Bs (some (.ref a))} {F H : Hp} {σ : L2.St} {env : DEnv} (x : EnvOk K w B F H σ env) (i : Nat) : EnvOk K w B F H (σ.set i (some (.ref a))) (env.set i (some .xp)) := by
  have y := x.drop i (some (.ref a))
  refine ⟨y.ext, by simpa using y.len, fun j s e => ?_, fun j k d e b hjk m1 m2 h1 h2 h3 h4 => ?_⟩
  · by_cases hj : i = j
    · subst hj
      have hl : i < env.length := by
        rcases Nat.lt_or_ge i env.length with z | z
        · exact z
        · rw [List.getElem?_eq_none (by simpa using z)] at e; cases e
      rw [List.getElem?_set_self hl] at e
      cases e
      exact ⟨_, List.getElem?_set_self (by rw [← x.len]; exact hl), a, rfl, rfl⟩
    · rw [List.getElem?_set_ne hj] at e
      exact y.sl j s (by rw [List.getElem?_set_ne hj]; exact e)
  · have ne : ∀ {j : Nat} {d : Sl}, d.mut = true → (env.set i (some .xp))[j]? = some (some d) → (env.set i none)[j]? = some (some d) := fun {j d} m q => by
      by_cases hj : i = j
      · subst hj
        by_cases hl : i < env.length
        · rw [List.getElem?_set_self hl] at q; cases q; cases m
        · rw [List.getElem?_eq_none (by simpa using hl)] at q; cases q
      · rw [List.getElem?_set_ne hj] at q ⊢; exact q
    exact y.ap j k d e b hjk m1 m2 (ne m1 h1) (ne m2 h2) h3 h4
theorem ds_try {x n : Str} {c : Value} {i : Nat} {body suite : List Stmt} {b₀ : Stmt} {np pos pos' : Pos} {gb : DEnv → Option Out} {gs : Value → DEnv → Option Out} {ca : Value → Option Bool}
    (hs : X.stack = X.env :: X.outer) (hf : X.env.frame = some X.env.locals) (hN : X.N.Nodup) (hi : X.N[i]? = some n) (hln : X.env.kindOf n = some .local) (hc : Names X x c) (tk : Takes X W)
    (hca : ∀ cls b, ca cls = some b → PySem.W.exmOne X.K cls c = some b)
    (hb : ∀ (W : WX) (pn : List (Addr × Obj)) (xe : Value → Shared → Prop), Takes (X.tr pn xe) W → PassesOwn (model X.prog X.w) X.A X.env xe → DSs (X.tr pn xe) W body gb)
    (hsu : ∀ (a : Addr) (oe : Obj) (cls : Value) (pn : List (Addr × Obj)), Zc cls none oe → (∃ vs, oe.data = .fields vs) → ca cls = some true → DSs (X.suite a ((a, oe) :: pn)) W0 (b₀ :: suite) (gs cls)) :
    DS X W (.Try body [.ExceptHandler (some (.Name x np)) (some n) (b₀ :: suite) pos'] [] [] pos) (dTry i ca gb gs) := by
  have key := ps_try_as (X := X) (x := x) (n := n) (c := c) (i := i) (body := body) (suite := suite) (b₀ := b₀) (np := np) (pos := pos) (pos' := pos') (tb := fun W' => tDSs X.K X.w X.A.handled W' gb)
    (ts := fun a cls d D σ H => d = none ∧ ca cls = some true ∧ tDSs X.K X.w (some (.ref a)) W0 (gs cls) D σ H) (Wout := W) hs hf hN hi hln hc tk
    (fun W' pn xe t p => (hb W' pn xe t p).pss) (fun a oe cls d pn hz hd => ⟨fun pins s σ H D I ⟨e1, e2, z⟩ => by
      subst e1
      exact (hsu a oe cls pn hz hd e2).pss.run pins s σ H D I z⟩)
  refine ⟨_, key, fun B F H σ env D ok h => ⟨B, F, env, ok, ?_⟩⟩
  unfold dTry at h
  cases hg : gb env with
  | none => rw [hg] at h; exact h
  | some o =>
    rw [hg] at h
    cases o with
    | nx e1 => exact h
    | rt o d => exact h
    | bk e1 => exact h
    | ct e1 => exact h
    | xc cls e1 =>
      intro F1 H1 σ1 ok1
      simp only [catchX] at h
      cases hq : ca cls with
      | none => rw [hq] at h; exact h.elim
      | some b =>
        rw [hq] at h
        refine ⟨b, hca _ _ hq, fun eb a ha => ?_, fun eb => ?_⟩
        · subst eb
          simp only at h
          split at h
          · rename_i hx
            refine ⟨rfl, hq, ⟨B.F, B.H, B.pin⟩, F1, e1.set i (some .xp), (ok1.held hx).setX i, ?_⟩
            cases hgs : gs cls (e1.set i (some .xp)) with
            | none => rw [hgs] at h; exact h.elim
            | some o2 =>
              rw [hgs] at h
              cases o2 with
              | nx e2 =>
                intro F2 H2 σ2 ok2
                simp only [backX] at h
                split at h
                · rename_i hx2
                  exact h F2 H2 _ ((ok2.drop i none).held hx2)
                · exact h.elim
              | bk e2 =>
                intro F2 H2 σ2 ok2
                simp only [backX] at h
                split at h
                · rename_i hx2
                  exact h F2 H2 _ ((ok2.drop i none).held hx2)
                · exact h.elim
              | ct e2 =>
                intro F2 H2 σ2 ok2
                simp only [backX] at h
                split at h
                · rename_i hx2
                  exact h F2 H2 _ ((ok2.drop i none).held hx2)
                · exact h.elim
              | rt o3 d3 => exact h
              | xc c3 e3 => exact h.elim
          · exact h.elim
        · subst eb
          exact h F1 H1 σ1 ok1
/-! ### the classes -/
/-- the own error classes: where each lies; which one a value is -/
structure Errs where
  c : String → Addr
  nm : Value → Option String
/-- which class is under which -/
def subN (a b : String) : Bool := a == b || b == "MixError" || b == "ValueError"
structure ErrsOk (K : PySem.W.Frag) (mg : Str → Option Value) (E : Errs) (raised own : List String) : Prop where
  g : ∀ n ∈ own, mg (Str.ofString n) = some (.ref (E.c n))
  nm : ∀ v n, E.nm v = some n → n ∈ raised ∧ v = .ref (E.c n)
  xc : ∀ n ∈ raised, XcC K (E.c n)
  kit : ∀ n ∈ raised, ∀ m ∈ own, PySem.W.kitOne K (.ref (E.c n)) (.ref (E.c m)) = some (subN n m)
  kitV : ∀ n ∈ raised, PySem.W.kitOne K (.ref (E.c n)) (.type "ValueError") = some (subN n "ValueError")
  exm : ∀ n ∈ raised, PySem.W.exmOne K (.ref (E.c n)) (.ref (E.c "MixError")) = some (subN n "MixError")
def Errs.ca (E : Errs) (m : String) (v : Value) : Option Bool := (E.nm v).map fun n => subN n m
def Errs.is (E : Errs) (v : Value) (m : String) : Bool := match E.nm v with
  | some n => subN n m
  | none => false
/-! ### isinstance(e, C), e the held error -/
def dIsE (i : Nat) (b : Bool) (env : DEnv) : M D := match env[i]? with
  | some (some .xp) => mok (.bool b)
  | _ => none
theorem de_isE {a D₀ : Addr} {oe : Obj} {pn : List (Addr × Obj)} {i : Nat} {x y : Str} {c : V} {cv : Value} {b : Bool} {p p1 p2 pos : Pos} (C : ExcC X.K D₀) (hz : Zc (.ref D₀) none oe) (hf : ∃ vs, oe.data = .fields vs)
    (hg : Gl X "isinstance") (hm : X.mg "isinstance" = none) (hc : PE (X.suite a ((a, oe) :: pn)) (.Name y p2) (tC c)) (hcv : ∀ u, RelV c u → u = cv) (hk : PySem.W.kitOne X.K (.ref D₀) cv = some b)
    (hi : X.N[i]? = some x) (hv : Vis X.env.scope x) (hd : (x == ("__debug__" : Str)) = false) (hcd : (x == ("__classdict__" : Str)) = false)
    (hs : starEach [.Name x p1, .Name y p2] X.env = (false, eval (.Name x p1) X.env) :: starEach [.Name y p2] X.env)
    (hs2 : starEach [.Name y p2] X.env = (false, eval (.Name y p2) X.env) :: starEach [] X.env) (hpl : (backTo pos (starEach [.Name y p2] X.env)).any (·.1) = false) :
    DE (X.suite a ((a, oe) :: pn)) W .v (.Call (.Name "isinstance" p) [.Name x p1, .Name y p2] [] pos) (dIsE i b) := by
  refine ⟨_, pe_callB (X := X.suite a ((a, oe) :: pn)) (call_isE C hz hf) hg hm (by decide +kernel) (pa_cons (pe_var (X := X.suite a ((a, oe) :: pn)) hi hv hd hcd) (pa_cons hc pa_nil hs2) hs) (by decide) (by decide) hs hpl, fun B F H σ env Q ok h => ?_⟩
  unfold dIsE at h
  split at h
  · rename_i q
    obtain ⟨v, h1, a', h2, h3⟩ := ok.sl i _ q
    cases h2
    subst h3
    exact ⟨_, h1, c, cv, b, rfl, hcv, hk, h _ F H (.refl ok.fh) (.bl b)⟩
  · exact h.elim
/-- isinstance(e, C), C an own class -/
theorem de_isOwn {E : Errs} {raised own : List String} {a : Addr} {oe : Obj} {cls : Value} {pn : List (Addr × Obj)} {i : Nat} {m : String} {x : Str} {p p1 p2 pos : Pos} (O : ErrsOk X.K X.mg E raised own) (hcl : E.ca "MixError" cls = some true) (hz : Zc cls none oe) (hf : ∃ vs, oe.data = .fields vs) (hmem : m ∈ own)
    (hg : Gl X "isinstance") (hm : X.mg "isinstance" = none) (hy : Gl X (Str.ofString m)) (hyd : ((Str.ofString m) == ("__debug__" : Str)) = false)
    (hi : X.N[i]? = some x) (hv : Vis X.env.scope x) (hd : (x == ("__debug__" : Str)) = false) (hcd : (x == ("__classdict__" : Str)) = false)
    (hs : starEach [.Name x p1, .Name (Str.ofString m) p2] X.env = (false, eval (.Name x p1) X.env) :: starEach [.Name (Str.ofString m) p2] X.env)
    (hs2 : starEach [.Name (Str.ofString m) p2] X.env = (false, eval (.Name (Str.ofString m) p2) X.env) :: starEach [] X.env) (hpl : (backTo pos (starEach [.Name (Str.ofString m) p2] X.env)).any (·.1) = false) :
    DE (X.suite a ((a, oe) :: pn)) W .v (.Call (.Name "isinstance" p) [.Name x p1, .Name (Str.ofString m) p2] [] pos) (dIsE i (E.is cls m)) := by
  unfold Errs.ca at hcl
  cases hn : E.nm cls with
  | none => rw [hn] at hcl; cases hcl
  | some n =>
    obtain ⟨h1, rfl⟩ := O.nm _ _ hn
    have e : E.is (.ref (E.c n)) m = subN n m := by unfold Errs.is; rw [hn]
    rw [e]
    exact de_isE (c := .ref (E.c m)) (cv := .ref (E.c m)) (O.xc n h1).c hz hf hg hm (pe_glob (X := X.suite a ((a, oe) :: pn)) hy (O.g m hmem) rfl hyd) (fun u r => r) (O.kit n h1 m hmem) hi hv hd hcd hs hs2 hpl
/-- isinstance(e, ValueError) -/
theorem de_isVE {E : Errs} {raised own : List String} {a : Addr} {oe : Obj} {cls : Value} {pn : List (Addr × Obj)} {i : Nat} {x : Str} {p p1 p2 pos : Pos} (O : ErrsOk X.K X.mg E raised own) (hcl : E.ca "MixError" cls = some true) (hz : Zc cls none oe) (hf : ∃ vs, oe.data = .fields vs)
    (hg : Gl X "isinstance") (hm : X.mg "isinstance" = none) (hy : Gl X "ValueError") (hym : X.mg "ValueError" = none)
    (hi : X.N[i]? = some x) (hv : Vis X.env.scope x) (hd : (x == ("__debug__" : Str)) = false) (hcd : (x == ("__classdict__" : Str)) = false)
    (hs : starEach [.Name x p1, .Name "ValueError" p2] X.env = (false, eval (.Name x p1) X.env) :: starEach [.Name "ValueError" p2] X.env)
    (hs2 : starEach [.Name "ValueError" p2] X.env = (false, eval (.Name "ValueError" p2) X.env) :: starEach [] X.env) (hpl : (backTo pos (starEach [.Name "ValueError" p2] X.env)).any (·.1) = false) :
    DE (X.suite a ((a, oe) :: pn)) W .v (.Call (.Name "isinstance" p) [.Name x p1, .Name "ValueError" p2] [] pos) (dIsE i (E.is cls "ValueError")) := by
  unfold Errs.ca at hcl
  cases hn : E.nm cls with
  | none => rw [hn] at hcl; cases hcl
  | some n =>
    obtain ⟨h1, rfl⟩ := O.nm _ _ hn
    have e : E.is (.ref (E.c n)) "ValueError" = subN n "ValueError" := by unfold Errs.is; rw [hn]
    rw [e]
    exact de_isE (c := .ty "ValueError") (cv := .type "ValueError") (O.xc n h1).c hz hf hg hm (pe_bltn (X := X.suite a ((a, oe) :: pn)) hy hym (by decide +kernel) rfl) (fun u r => r) (O.kitV n h1) hi hv hd hcd hs hs2 hpl
theorem ErrsOk.catches {K : PySem.W.Frag} {mg : Str → Option Value} {E : Errs} {raised own : List String} (O : ErrsOk K mg E raised own) (cls : Value) (b : Bool) (h : E.ca "MixError" cls = some b) : PySem.W.exmOne K cls (.ref (E.c "MixError")) = some b := by
  unfold Errs.ca at h
  cases hn : E.nm cls with
  | none => rw [hn] at h; cases h
  | some n =>
    rw [hn] at h
    obtain ⟨h1, rfl⟩ := O.nm _ _ hn
    cases h
    exact O.exm n h1
/-! ### xs.clear() -/
def dClear (i : Nat) (env : DEnv) : Option Out := match env[i]? with
  | some (some (.ow (.list _))) => some (.nx (env.set i (some (.ow (.list [])))))
  | _ => none
theorem ds_clear {i : Nat} {x : Str} {p2 apos cpos pos : Pos} (hi : X.N[i]? = some x := by rfl) (hv : Vis X.env.scope x := by first | exact Or.inl rfl | exact Or.inr (Or.inl rfl) | exact Or.inr (Or.inr rfl))
    (hd : (x == ("__debug__" : Str)) = false := by decide) (hcd : (x == ("__classdict__" : Str)) = false := by decide)
    (hbase : attributeBase (.Name x p2) "clear" X.env (eval (.Name x p2) X.env) = eval (.Name x p2) X.env := by rfl) (hline : (apos.endLine == cpos.line) = true := by rfl)
    (hsw : swapsWith (.Call (.Attribute (.Name x p2) "clear" apos) [] [] cpos) none pos.line X.env = pure false := by rfl) :
    DS X W (.Expr (.Call (.Attribute (.Name x p2) "clear" apos) [] [] cpos) pos) (dClear i) := by
  refine ⟨_, ps_expr (pe_bm0 PySem.F.plainAttrs_list PySem.F.slot_list_clear PySem.F.type_list_clear mt_clear (pe_var hi hv hd hcd) hbase hline) hsw, fun B F H σ env D ok h => ?_⟩
  unfold dClear at h
  split at h
  · rename_i ds q
    obtain ⟨l, vs, h1, h2, h3, h4⟩ := own_list ok q
    exact ⟨.ref l, h1, .inl ⟨rfl, _, .inl (.inl h2)⟩, l, vs, rfl, rfl, h2, h F _ σ (ok.write q h1 ⟨l, rfl, .inl ⟨[], [], rfl, upd_same, .nil⟩⟩)⟩
  · exact h.elim
end
/-! ### a law that knows errors -/
def Errs.Good (E : Errs) (raised : List String) : Prop := ∀ n ∈ raised, E.nm (.ref (E.c n)) = some n
def spE (K : PySem.W.Frag) (w : World) (raised : List String) (G : Errs → List D → Option Res) : Sp := fun vs H Q X => ∀ E : Errs, E.Good raised → spD K w 1 (G E) vs H Q X
theorem spE_ok {P : Program} {w : World} {K : PySem.W.Frag} {mg : Str → Option Value} {base : Heap} {k : Nat} {fn : Addr} {fd : FuncData} {ps : List Str} {raised : List String} {G : Errs → List D → Option Res} {E : Errs} (hE : E.Good raised)
    (h : FnOk P w K mg base (L2.CX P w) k fn fd ps (spD K w 1 (G E))) : FnOk P w K mg base (L2.CX P w) k fn fd ps (spE K w raised G) :=
  ⟨fun vs H Q X z => h.len vs H Q X (z E hE), fun A outer s H args us vs Q X r e b v z => h.run A outer s H args us vs Q X r e b v (z E hE)⟩
theorem errs_nm {l : List (Value × String)} {raised : List String} {Ec : String → Addr} (h : ∀ p ∈ l, p.2 ∈ raised ∧ p.1 = .ref (Ec p.2)) {v : Value} {n : String} (e : l.lookup v = some n) : n ∈ raised ∧ v = .ref (Ec n) := by
  induction l with
  | nil => cases e
  | cons p l ih =>
    obtain ⟨a, b⟩ := p
    rw [List.lookup_cons] at e
    split at e
    · rename_i hb
      cases e
      have hv : v = a := eq_of_beq hb
      subst hv
      exact h _ List.mem_cons_self
    · exact ih (fun q hq => h q (List.mem_cons_of_mem _ hq)) e
theorem kit_ne {K : PySem.W.Frag} {a b : Addr} (h1 : PySem.W.kitOne K (.ref a) (.ref a) = some true) (h2 : PySem.W.kitOne K (.ref a) (.ref b) = some false) : (Value.ref a == Value.ref b) = false := by
  refine Bool.eq_false_iff.mpr fun q => ?_
  have e := eq_of_beq q
  rw [← e, h1] at h2
  cases h2
end DL

/-! The data layer: (x,) * n, int(flag), min(xs), d != {}, {k: v}, for k, v in d.items(). -/
namespace DL
open PySem PySem.Spec PyProof.Rows L2
/-! ### (x,) * n -/
theorem tuple_mul1 (l : Addr) (items : Array Value) (n : Nat) (dd : Option Addr) (sl : Array (Option Value)) (u : Tok) :
    Meets (Builtin.«tuple.__mul__» ⟨[.ref l, .int 1 u], []⟩) (fun _ R s => s.heap.get? l = some { cls := .type "tuple", dict := dd, data := .seq items n, slots := sl } ∧ R (.ok (.ret (Value.ref l))) s) :=
  .of_wp fun prog w A R s h => by
    obtain ⟨hp, g, d, tk, os⟩ := s
    obtain ⟨hl, h⟩ := h
    have f1 := AutoSeq1.idx_int
    have c0 : (decide ((1 : Int) < -(2 ^ 63)) || decide ((1 : Int) ≥ 2 ^ 63)) = false := by decide
    have c1 : (items.isEmpty || (1 : Int) == 1) = true := by simp
    wp_walk using wpAny_loadPart' hl
    repeat (first
      | (refine wpAny_ite_false (decide_eq_false (by rw [c0]; exact Bool.false_ne_true)) ?_; wp_walk using wpAny_loadPart' hl)
      | (refine wpAny_ite_true (decide_eq_true (by rw [c1])) ?_; wp_walk using wpAny_loadPart' hl))
    exact ⟨_, rfl, h⟩
section
variable {X : Cx} {W : WX}
def repT : D → D → M D
  | .tuple xs, .int k => if (xs ≠ [] ∧ 1 ≤ k ∧ k ≤ 1000 ∧ xs.length ≤ 1000) ∧ fmk (List.replicate k.toNat xs).flatten = false then mok (.tuple (List.replicate k.toNat xs).flatten) else none
  | _, _ => none
theorem repT_ne (x y : D) (c : Value) : repT x y ≠ some (.error c) := by
  unfold repT
  split
  · split <;> intro h <;> cases h
  · intro h; cases h
theorem RpA.rep {K : PySem.W.Frag} {w : World} {F : Hp} {vs : List V} {ds : List D} (h : RpA K w F vs ds) : ∀ n : Nat, RpA K w F (List.replicate n vs).flatten (List.replicate n ds).flatten
  | 0 => .nil
  | n + 1 => by
    rw [List.replicate_succ, List.replicate_succ, List.flatten_cons, List.flatten_cons]
    exact h.append (RpA.rep h n)
theorem op_rep1 {l : Addr} {xs : List V} {pins : List (Addr × Obj)} {s : Shared} {σ : L2.St} {H : Hp} {u : Value} {Q : VK} (I : Inv X pins σ H s) (hT : SqT X.K H l xs) (ru : RelV (.int 1) u) (q : Q (.ref l) H) : wpAny (model X.prog X.w) X.A (binaryOp .Mult (.ref l) u) (EP X pins σ Q) X.xe s := by
  obtain ⟨t, rfl⟩ := ru
  obtain ⟨its, r, ⟨⟨cls, dd, data, sl⟩, ho, hc, n, hd⟩, hs⟩ := I.tuple hT
  simp only at hc hd
  subst hc hd
  refine wpAny_binaryOp_repeat_ref (T := "tuple") (U := "int") (by decide) ⟨_, ho, rfl⟩ (fun s' => typeIs_int s' 1 t) noFill_tuple_mul PySem.F.fills_int_mul PySem.F.slot_int_rmul repeat_tuple PySem.F.slot_int_index.lookup
    (call_meets PySem.F.slot_int_rmul (typeIs_int s 1 t) PySem.F.entry_int_rmul (PySem.F.args_int_rmul_2 _ _) (int_rmul_tuple 1 t l its.toArray n dd sl)
      ⟨ho, rfl, ⟨_, ho, rfl⟩, call_meets PySem.F.slot_tuple_mul ⟨_, ho, rfl⟩ PySem.F.entry_tuple_mul (PySem.F.args_tuple_mul_2 _ _) (tuple_mul1 l its.toArray n dd sl t) ⟨ho, ?_⟩⟩)
  exact ⟨.ref l, H, I, rfl, q⟩
theorem op_repV : OpR X (binaryOp .Mult) (rD X .v repT) := by
  intro pins s σ H x y v u Q I rx ry h
  obtain ⟨F, d, e, sm, sx, sy, h⟩ := h
  unfold repT at h
  split at h
  · rename_i xs k
    split at h
    · rename_i hc0
      obtain ⟨hc, hfm⟩ := hc0
      obtain ⟨a, vs, rfl, hT, ra⟩ := sx.tuple sm
      have ey := sy.int
      subst ey
      have hl := ra.length
      have hne : vs ≠ [] := fun z => hc.1 (ra.nil_iff.mp z)
      by_cases h1 : k = 1
      · subst h1
        cases rx
        refine op_rep1 I hT ry (h (.ref a) F H (.refl sm) ?_)
        have e1 : (List.replicate (1 : Int).toNat xs).flatten = xs := by simp
        rw [e1]
        rcases sx with g | ⟨b, e, ⟨vs, es, e1, e2, r⟩ | ⟨es, kvs, e1, e2, r⟩⟩
        · exact g
        · cases e1
        · cases e1
      · refine op_repT pins s σ H _ _ v u Q I rx ry ⟨a, k, vs, rfl, rfl, hT, hne, by omega, by omega, by omega, fun p hp => ?_⟩
        have x := Ext.newF (o := .tup (List.replicate k.toNat vs).flatten) sm hp
        exact h (.ref p) _ _ x (.tup (.inl (.inl upd_same)) ((RpA.rep ra k.toNat).mono x.ff) fun z => by rw [hfm] at z; cases z)
    · exact h.elim
  · exact h.elim
/-! ### int(flag) -/
def intD : List D → M D
  | [.int i] => mok (.int i)
  | [.bool b] => mok (.int (if b then 1 else 0))
  | _ => none
theorem intD_ne (ds : List D) (c : Value) : intD ds ≠ some (.error c) := by
  unfold intD
  split <;> intro h <;> cases h
theorem call_intV : CallR X (.type "int") (rC X .v intD) := by
  intro pins s σ H xs us Q I r h
  obtain ⟨F, ds, sm, sx, h⟩ := h
  unfold intD at h
  split at h
  · obtain ⟨v, rfl, k⟩ := pair1 sx
    have := k.int
    subst this
    exact call_int1 pins s σ H _ us Q I r (.inl ⟨_, rfl, h _ F H (.refl sm) (.int _)⟩)
  · obtain ⟨v, rfl, k⟩ := pair1 sx
    have := k.bool
    subst this
    exact call_int1 pins s σ H _ us Q I r (.inr ⟨_, rfl, h _ F H (.refl sm) (.int _)⟩)
  · exact h.elim
/-! ### min(xs) -/
def minI : Int → List Int → Int
  | m, [] => m
  | m, n :: ns => minI (if n < m then n else m) ns
theorem minI_le : ∀ (ns : List Int) (m : Int), minI m ns ≤ m ∧ ∀ n ∈ ns, minI m ns ≤ n
  | [], m => ⟨Int.le_refl _, by intro n hn; cases hn⟩
  | n :: ns, m => by
    obtain ⟨h1, h2⟩ := minI_le ns (if n < m then n else m)
    show minI (if n < m then n else m) ns ≤ m ∧ _
    refine ⟨Int.le_trans h1 (by split <;> omega), fun k hk => ?_⟩
    rcases List.mem_cons.mp hk with rfl | hk
    · exact Int.le_trans h1 (by split <;> omega)
    · exact h2 k hk
theorem minI_mem : ∀ (ns : List Int) (m : Int), minI m ns = m ∨ minI m ns ∈ ns
  | [], m => .inl rfl
  | n :: ns, m => by
    show minI (if n < m then n else m) ns = m ∨ minI (if n < m then n else m) ns ∈ n :: ns
    rcases minI_mem ns (if n < m then n else m) with h | h
    · by_cases hn : n < m
      · rw [if_pos hn] at h ⊢; rw [h]; exact .inr List.mem_cons_self
      · rw [if_neg hn] at h ⊢; exact .inl h
    · exact .inr (List.mem_cons_of_mem _ h)
def minLD : List D → M D
  | [.list xs] => match intsOf xs with
    | some (n :: ns) => mok (.int (minI n ns))
    | _ => none
  | _ => none
theorem minLD_ne (ds : List D) (c : Value) : minLD ds ≠ some (.error c) := by
  unfold minLD
  split
  · split <;> intro h <;> cases h
  · intro h; cases h
theorem call_minLV (hc : X.calm = true) : CallR X (.builtin "min") (rC X .v minLD) := by
  intro pins s σ H xs us Q I r h
  obtain ⟨F, ds, sm, sx, h⟩ := h
  unfold minLD at h
  split at h
  · split at h
    · rename_i n ns hn
      obtain ⟨v, rfl, k⟩ := pair1 sx
      obtain ⟨a, vs, rfl, ha, ra⟩ := k.list sm
      rw [of_intsOf hn] at ra
      rw [ints_rel ra] at ha
      refine cr_min hc pins s σ H _ us Q I r ⟨a, _, rfl, ha, by simp, fun m hm hle => ?_⟩
      have e : m = minI n ns := by
        obtain ⟨h1, h2⟩ := minI_le ns n
        have h3 : minI n ns ∈ n :: ns := by
          rcases minI_mem ns n with z | z
          · rw [z]; exact List.mem_cons_self
          · exact List.mem_cons_of_mem _ z
        have h4 := hle _ h3
        rcases List.mem_cons.mp hm with rfl | hm
        · omega
        · have := h2 m hm
          omega
      subst e
      exact h _ F H (.refl sm) (.int _)
    · exact h.elim
  · exact h.elim
/-! ### d != {} -/
theorem same_empty {prog : Program} {w : World} {A : Around} {E : Value → Shared → Prop} {s : Shared} {nm : String} {a b : Addr} {es : Array DictEntry} {ep ep' : Nat} {Q : Bool → Shared → Prop} (ha : (a == sysModules) = false) (hb : (b == sysModules) = false)
    (da : DT.Raw s.heap a es ep) (db : DT.Raw s.heap b #[] ep') (h : Q (es.size == 0) s) : wpAny (model prog w) A (Builtin.Dict.samePairs nm a b) Q E s := by
  obtain ⟨oa, hoa, _, hda⟩ := da
  obtain ⟨ob, hob, _, hdb⟩ := db
  unfold Builtin.Dict.samePairs Builtin.Dict.showsAll
  rw [if_neg (show ¬ (a == sysModules) = true by rw [ha]; exact Bool.false_ne_true), if_neg (show ¬ (b == sysModules) = true by rw [hb]; exact Bool.false_ne_true)]
  refine wpAny_bind (wpAny_pure (wpAny_bind (wpAny_pure ?_)))
  refine wpAny_bind (wpAny_dictEntries hoa hda ?_)
  dsimp only
  refine wpAny_bind (wpAny_dictEntries hob hdb ?_)
  by_cases hsz : es.size = 0
  case neg =>
    rw [if_pos (by simpa using hsz)]
    have hbf : (es.size == 0) = false := by simpa using hsz
    rw [hbf] at h
    exact wpAny_bind (wpAny_rule (wpAny_pure h))
  case pos =>
    have h' : Q true s := by simpa [hsz] using h
    rw [if_neg (by rw [hsz]; simp)]
    refine wpAny_bind (wpAny_dictEpoch hoa hda ?_)
    refine wpAny_bind ?_
    rw [Std.Legacy.Range.forIn_eq_forIn_range']
    simp only [Std.Legacy.Range.size, Nat.sub_zero, Nat.add_sub_cancel, Nat.div_one, hsz, List.range'_zero, List.forIn_nil]
    exact wpAny_pure (wpAny_pure h')
theorem ne_empty {prog : Program} {w : World} {A : Around} {E : Value → Shared → Prop} {s : Shared} {a b : Addr} {es : Array DictEntry} {ep ep' : Nat} {Q : Value → Shared → Prop} (ha : (a == sysModules) = false) (hb : (b == sysModules) = false)
    (da : DT.Raw s.heap a es ep) (db : DT.Raw s.heap b #[] ep') (hu : A.units < cLine) (h : Q (.bool (!(es.size == 0))) s) : wpAny (model prog w) A (compareOp .NotEq (.ref a) (.ref b)) Q E s := by
  refine wpAny_richCompare_same_room (op := .NotEq) da.typeIs db.typeIs PySem.F.slot_dict_ne (wpAny_call_entry PySem.F.slot_dict_ne da.typeIs PySem.F.entry_dict_ne ?_ (PySem.F.args_dict_ne_2 _ _)) hu
  show wpAny _ _ (Builtin.Dict.dictSlotArgs "__ne__" ⟨[.ref a, .ref b], []⟩ >>= _) _ _ s
  refine wpAny_bind ?_
  unfold Builtin.Dict.dictSlotArgs
  refine wpAny_bind (wpAny_notOrdered_dict da.typeIs ?_)
  show wpAny _ _ (pure (Value.ref a, Value.ref b)) _ _ s
  refine wpAny_pure ?_
  refine wpAny_bind (wpAny_isInstance (T := "dict") db.typeIs PySem.F.sub_dict_dict ?_)
  simp only [Bool.not_true, Bool.false_eq_true, if_false]
  refine wpAny_bind (wpAny_pure (wpAny_bind (wpAny_pure ?_)))
  refine wpAny_bind (same_empty ha hb da db ?_)
  refine wpAny_pure ⟨_, rfl, ?_, ?_⟩
  · exact fun x => nomatch x
  · simpa using h
/-- compared with a dict that is empty -/
def neE : D → D → M D
  | .dict kvs, .dict [] => mok (.bool (!(kvs.length == 0)))
  | _, _ => none
theorem neE_ne (x y : D) (c : Value) : neE x y ≠ some (.error c) := by
  unfold neE
  split <;> intro h <;> cases h
theorem op_neE (hu : X.A.units + 64 < cLine) : OpR X (compareOp .NotEq) (rD X .v neE) := by
  intro pins s σ H x y v u Q I rx ry h
  obtain ⟨F, d, e, sm, sx, sy, h⟩ := h
  unfold neE at h
  split at h
  · obtain ⟨p, es, rfl, hp, re⟩ := sx.dict sm
    obtain ⟨p2, es2, rfl, hp2, re2⟩ := sy.dict sm
    cases rx
    cases ry
    obtain ⟨⟨hs1, _, _, _, o1, ho1, hx1, hd1, hp1⟩, _, _⟩ := I.hok p _ hp
    obtain ⟨⟨hs2, _, _, _, o2, ho2, hx2, hd2, hp2'⟩, _, _⟩ := I.hok p2 _ hp2
    have l1 : es.en.size = es.es.length := by rw [Paired.length hp1]; simp
    have l2 := RpE.length re
    have l3 : es2.en.size = es2.es.length := by rw [Paired.length hp2']; simp
    have l4 := RpE.length re2
    have e2 : es2.en = #[] := by
      refine Array.eq_empty_of_size_eq_zero ?_
      rw [l3, l4]
      rfl
    have q := h (.bl _) F H (.refl sm) (.bl _)
    refine ne_empty hs1 hs2 ⟨o1, ho1, hx1, hd1⟩ ⟨o2, ho2, hx2, by rw [hd2, e2]⟩ (by omega) ⟨.bl _, H, I, rfl, ?_⟩
    rw [l1, l2]
    exact q
  · exact h.elim
/-! ### for k, v in d.items() -/
def ItD (w : World) (a : Addr) (x : DR) : It :=
  ⟨fun i H => H a = some (dO w a x) ∧ i < x.es.length, fun i H v H' => ∃ T k kv u, x.es[i]? = some (k, kv, u) ∧ v = .ref T ∧ H T = none ∧ H' = upd H T (.tup [kv, u]), fun i H => H a = some (dO w a x) ∧ x.es.length ≤ i⟩
theorem turn_itemsD {P : Program} {w : World} {K : PySem.W.Frag} {a : Addr} {x : DR} {elts : List Expr} {kk : Nat} {tpos : Pos} (it : Addr) :
    Turn P w K (.Tuple elts kk tpos) (ItD w a x) [it] it (fun i h => ∃ ok ov, IsItemIter h it a i x.en.size x.ep ok ov) where
  mem := by simp
  obj := fun i h st b hb => by
    have e : b = it := by simpa using hb
    subst e
    obtain ⟨ok, ov, e⟩ := st
    exact ⟨_, e, fun v z => nomatch z⟩
  keep := fun i h h' st k => let ⟨ok, ov, e⟩ := st; ⟨ok, ov, k it (by simp) _ e⟩
  item := by
    intro X hP hw hK hc i pins s σ H E I hf st hg
    subst hP hw hK
    obtain ⟨ha, hi⟩ := hg
    obtain ⟨⟨_, _, _, _, o, ho, hx, hdat, hp⟩, _, _⟩ := I.hok a _ ha
    have l1 : x.es.length = x.en.size := by rw [Paired.length hp]; simp
    obtain ⟨ok, ov, he⟩ := st
    have hlt : it < s.heap.objs.size := Heap.lt_size he
    have hi2 : i < x.en.size := by omega
    obtain ⟨e, h1, _, h3, h4⟩ := paired_get (i := i) (y := x.en[i]) hp (by rw [Array.getElem?_toList]; exact Array.getElem?_eq_getElem hi2)
    refine DT.nextI he ⟨o, ho, hx, hdat⟩ hi2 fun h' ho' hT hz hk => ?_
    refine ⟨_, rfl, wpAny_letOwnedTupleGo_items (s := { s with heap := h' }) ho' fun h'' he' sb => ?_⟩
    have hT2 : h''.get? s.heap.objs.size = some { cls := .type "tuple", data := .seq #[x.en[i].key, x.en[i].val] } := (sb.2 _ (Nat.ne_of_gt hlt)).trans hT
    have new : ObjOk X.prog X.w (upd H s.heap.objs.size (.tup [e.2.1, e.2.2])) h'' s.heap.objs.size (.tup [e.2.1, e.2.2]) :=
      ⟨by show 2 ≤ sizeLine; decide, [x.en[i].key, x.en[i].val], .cons h3 (.cons h4 .nil), ⟨_, hT2, rfl, _, rfl⟩⟩
    have I1 : Inv X pins σ (upd H s.heap.objs.size (.tup [e.2.1, e.2.2])) { s with heap := h'' } :=
      I.turnedNew (t' := s.toks) (ch := [it]) (fun b ob hb e => (sb.2 b (by simpa using hb)).trans (hk b ob (by simpa using hb) e)) hf (Nat.le_refl _) new
    refine ⟨.ref s.heap.objs.size, _, I1, rfl, ⟨_, e.1, e.2.1, e.2.2, h1, rfl, I.hok.fresh (Nat.le_refl _), rfl⟩, ⟨_, _, he'⟩, fun b hb => ?_⟩
    have e : b = it := by simpa using hb
    rw [e, upd_ne (Nat.ne_of_lt hlt)]
    exact (hf it (by simp)).1
  done := by
    intro X hP hw hK hc i pins s σ H E I hf st hg
    subst hP hw hK
    obtain ⟨ha, hi⟩ := hg
    obtain ⟨f0, f1, f2, f3, f4, f5⟩ := hf it (by simp)
    obtain ⟨⟨_, _, _, _, o, ho, hx, hdat, hp⟩, _, _⟩ := I.hok a _ ha
    have l1 : x.es.length = x.en.size := by rw [Paired.length hp]; simp
    obtain ⟨ok, ov, he⟩ := st
    exact DT.endI (I.ok.hd hc) he ⟨o, ho, hx, hdat⟩ (by omega) fun h' eb => ⟨rfl, I.turned (t' := s.toks) (fun b ob hb e => eb b ob hb e) f0 f1 f3 f4 f5⟩
  self := fun A i s Q E st h => let ⟨_, _, e⟩ := st; PySem.W.kcp_self e h
def iItemsD (w : World) (td : TE) : TI := fun σ H R => td σ H fun v H1 => ∃ a x, v = .ref a ∧ H1 a = some (dO w a x) ∧ R (ItD w a x) H1
theorem pi_itemsD {e : Expr} {td : TE} {apos cpos : Pos} {elts : List Expr} {kk : Nat} {tpos : Pos} (he : PE X e td) (hbase : attributeBase e "items" X.env (eval e X.env) = eval e X.env := by rfl) (hline : (apos.endLine == cpos.line) = true := by rfl) :
    PI X (.Tuple elts kk tpos) (.Call (.Attribute e "items" apos) [] [] cpos) (iItemsD X.w td) := by
  refine ⟨fun pins s σ H R I h => ?_⟩
  refine wpAny_Call_method (T := "dict") (id := "dict.items") hbase rfl hline PySem.F.plainAttrs_dict PySem.F.slot_dict_items PySem.F.type_dict_items (thn (he.run pins s σ H _ I h) fun u s1 ⟨x, H1, I1, rx, d, dr, ex, hd, q⟩ => ?_)
  subst ex
  obtain rfl : u = Value.ref d := rx
  obtain ⟨t1, t2⟩ := dict_ty I1 hd
  obtain ⟨⟨hs, _, _, _, o, ho, hx, hdat, hp⟩, _, _⟩ := I1.hok d _ hd
  refine ⟨t1, t2, ?_⟩
  have I2 : Inv X pins σ H1 { s1 with heap := s1.heap.push { cls := .type "dict_items", data := .fields #[.ref d] } } := I1.kept (t' := s1.toks) fun b ob q => Heap.get?_push_of_some _ q
  have rw1 : DT.Raw s1.heap d dr.en dr.ep := ⟨o, ho, hx, hdat⟩
  have fin : wpAny (model X.prog X.w) X.A (pyIter (.ref s1.heap.objs.size)) (PIE X pins σ (.Tuple elts kk tpos) R) X.xe { s1 with heap := s1.heap.push { cls := .type "dict_items", data := .fields #[.ref d] } } :=
    DT.iterI (d := d) ⟨_, Heap.get?_push_size _ rfl, rfl, rfl⟩ (rw1.push _) (pi_one (tk := s1.toks) I2 _ (turn_itemsD _) ⟨.none, .none, Heap.get?_push_size _ rfl⟩ q)
  show wpAny _ _ (callWith cpos (.builtin "dict.items") [.ref d] [] []) _ X.xe s1
  exact method_meetsIn PySem.F.slot_dict_items PySem.F.entry_dict_items rfl (PySem.evalArgs_none ⟨rfl, rw1.typeIs, PySem.F.args_dict_items_1 _, _, DT.meetsItems (es := dr.en) (ep := dr.ep) hs, ⟨rw1, fin⟩⟩)
def asItems : D → M (List D)
  | .dict kvs => if plainP (itemsD kvs) = true then mok (itemsD kvs) else none
  | _ => none
theorem di_items {e : Expr} {f : DEnv → M D} {apos cpos : Pos} {elts : List Expr} {kk : Nat} {tpos : Pos} (he : DE X W .v e f) (hbase : attributeBase e "items" X.env (eval e X.env) = eval e X.env := by rfl) (hline : (apos.endLine == cpos.line) = true := by rfl) :
    DI X W (.Tuple elts kk tpos) (.Call (.Attribute e "items" apos) [] [] cpos) (dIt asItems f) := by
  obtain ⟨t, he, q⟩ := he
  refine ⟨_, pi_itemsD he hbase hline, fun B F H σ env R ok h => q B F H σ env _ ok (h.bind.mono (fun d k v F' H' x r => ?_) fun c k => k)⟩
  have r : Rp X.K X.w F' v d := r
  unfold asItems at k
  split at k
  · split at k
    rotate_left
    · exact k.elim
    rename_i hplain
    cases r with
    | dic h1 re =>
      refine ⟨_, _, rfl, x.fh _ _ h1, k _ F' H' x ⟨fun F2 H2 i d1 s1 s2 hd => ?_, fun F2 H2 s1 s2 => ?_⟩⟩
      · have ha := s2 _ _ (s1 _ _ h1)
        have hl := RpE.length re
        have hil : i < _ := (List.getElem?_eq_some_iff.mp hd).1
        have hd0 := hd
        unfold itemsD at hil hd
        rw [List.length_map] at hil
        refine ⟨⟨ha, by omega⟩, fun x1 H3 y => ?_⟩
        obtain ⟨T, k, kv, u, e1, rfl, hT, rfl⟩ := y
        obtain ⟨dd, e2, r1, r2⟩ := rpE_get re e1
        rw [List.getElem?_map, e2] at hd
        cases hd
        have hff := plainP_at hplain hd0
        have xx := Ext.newF (o := .tup [kv, u]) s2 hT
        exact ⟨_, xx, .tup (.inl (.inl upd_same)) (.cons ((r1.mono s1).mono xx.ff) (.cons ((r2.mono s1).mono xx.ff) .nil)) fun z => by rw [hff] at z; cases z⟩
      · refine ⟨s2 _ _ (s1 _ _ h1), ?_⟩
        unfold itemsD
        rw [List.length_map, RpE.length re]
        exact Nat.le_refl _
  · exact k.elim
/-! ### {k: v} -/
def dD1 (fk fv : DEnv → M D) (env : DEnv) : M D := mbind (fk env) fun k => mbind (fv env) fun d => if keyOk k = true then mok (.dict [(k, d)]) else none
theorem pe_dict1 {k v : Expr} {tk tv : TE} {pos : Pos} (hu : X.A.units + 64 < cLine) (hk : PE X k tk) (hv : PE X v tv) :
    PE X (.Dict [some k] [v] pos) (fun σ H Q => ∀ p, H p = none → tk σ (upd H p (dO X.w p ⟨[], #[], 0⟩)) fun kv H1 => tv σ H1 fun vv H2 => ∃ (F : Hp) (ks : List NestedKey) (d : D), Same F H2 ∧ H2 p = some (dO X.w p ⟨[], #[], 0⟩) ∧ Rp X.K X.w F kv (NestedKey.tup ks).data ∧ (NestedKey.tup ks).depth ≤ 8 ∧ Rp X.K X.w F vv d ∧
      ∀ es' : DR, RpE X.K X.w F es'.es [((NestedKey.tup ks).data, d)] → Q (.ref p) (upd H2 p (dO X.w p es'))) := by
  refine ⟨fun pins s σ H Q I h => ?_⟩
  have hno : ObjOk X.prog X.w (upd H s.heap.objs.size (dO X.w s.heap.objs.size ⟨[], #[], 0⟩)) (s.heap.push { cls := .type "dict", data := .dict #[] }) s.heap.objs.size (dO X.w s.heap.objs.size ⟨[], #[], 0⟩) :=
    dO_ok (beq_eq_false_iff_ne.mpr (Ne.symm (Nat.ne_of_lt I.big))) (Nat.zero_le _) List.nodup_nil (by intro x hx; cases hx) (Heap.get?_push_size _ rfl) ⟨rfl, rfl, rfl⟩ rfl .nil
  have hn := I.hok.fresh (Nat.le_refl s.heap.objs.size)
  have I1 := I.laid (a := s.heap.objs.size) (t' := s.toks) (fun _ _ q => Heap.get?_push_of_some _ q) (Nat.le_refl _) hno
  have sh := zip_pairTrees [some k] [v] X.env pos rfl rfl
  rw [arm_eval_Dict, sh, dictDisplay_pairs (pairTrees [some k] [v] X.env pos) (by intro z; cases z) (by rw [pairTrees_length _ _ _ _ rfl rfl]; exact (by decide : (1 : Nat) < 17))]
  refine wpAny_bind (wpAny_standAt (wpAny_bind (wpAny_subDictH (knd := nestedKind X.prog X.w) (Q := fun d s' => wpAny (model X.prog X.w) X.A (pure (Value.ref d)) (EP X pins σ Q) X.xe s') (by show X.A.units + 8 < cLine; omega) (by rw [pairTrees_length _ _ _ _ rfl rfl]; exact (by decide : (1 : Nat) ≤ 15)) ?_)))
  refine pairTrees_cons_walk ?_
  refine thn (hk.run pins _ σ _ _ I1 (h _ hn)) fun kv s2 ⟨xk, H1, I2, rk, q1⟩ => ?_
  refine thn (hv.run pins _ σ _ _ I2 q1) fun vv s3 ⟨xv, H2, I3, rv, F, ks, d, sm, hp, rpk, hdp, rpd, q2⟩ => ?_
  refine pairTrees_nil_walk ?_
  obtain ⟨c, rfl, rfl, hkey⟩ := key_is I3 sm rpk rk hdp
  obtain ⟨hd, _, xs, hm, px⟩ := dict_of (F := F) (kvs := []) I3 sm hp .nil
  cases px
  refine ⟨[(.tup ks, c, vv)], ⟨rfl, rfl, hkey, trivial⟩, hm, fun h' tk hm' hs => wpAny_pure ?_⟩
  have ho : ∃ u, h'.get? s.heap.objs.size = some u := by
    obtain ⟨o, _, _, ho, _⟩ := hm'
    exact ⟨o, ho⟩
  have e0 : storedAllH ([] : List (NestedKey × Addr × Value)) [(NestedKey.tup ks, c, vv)] = [(.tup ks, c, vv)] := rfl
  rw [e0] at hm'
  obtain ⟨x', ex', hno'⟩ := dict_to (P := X.prog) (w := X.w) (H' := H2) (es := [(.tup ks, .ref c, xv)]) (xs := [(.tup ks, c, vv)]) hd (by show 1 ≤ sizeLine; decide) (by intro x hx; rw [List.mem_singleton.mp hx]; exact ⟨hdp, ks, rfl⟩) hm' (.cons ⟨rfl, rfl, rv⟩ .nil)
  refine ⟨.ref s.heap.objs.size, _, I3.write (x := s.heap.objs.size) (e := s.heap.objs.size) (t' := _) (by rw [hp]; trivial) (.inl rfl) (fun b ob hb hg => by rw [hs.2 b hb]; exact hg) ho hno', rfl, q2 _ ?_⟩
  rw [ex']
  exact .cons rpk rpd .nil
theorem de_dict1 {k v : Expr} {fk fv : DEnv → M D} {pos : Pos} (hu : X.A.units + 64 < cLine) (hk : DE X W .v k fk) (hv : DE X W .v v fv) : DE X W .o (.Dict [some k] [v] pos) (dD1 fk fv) := by
  obtain ⟨tk, hk, qk⟩ := hk
  obtain ⟨tv, hv, qv⟩ := hv
  refine ⟨_, pe_dict1 hu hk hv, fun B F H σ env Q ok h p hp => ?_⟩
  have x0 : Ext F H F (upd H p (dO X.w p ⟨[], #[], 0⟩)) := Ext.newO ok.fh hp
  have ok0 := ok.mono x0
  refine qk B F _ σ env _ ok0 (h.bind.mono (fun k1 h1 kv F1 H1 x1 r1 => ?_) fun c hc F' H' x => hc F' H' (x0.trans x))
  have ok1 := ok0.mono x1
  refine qv B F1 H1 σ env _ ok1 (h1.bind.mono (fun d1 h2 vv F2 H2 x2 r2 => ?_) fun c hc F' H' x => hc F' H' ((x0.trans x1).trans x))
  split at h2
  · rename_i hko
    obtain ⟨ks, rfl, hdp⟩ := keyOk_key hko
    have x12 := x1.trans x2
    have hp2 : H2 p = some (dO X.w p ⟨[], #[], 0⟩) := x12.hh _ _ upd_same
    have hf : F p = none := ok.fh.free hp
    have hf2 : F2 p = none := by
      cases q : F2 p with
      | none => rfl
      | some o =>
        rcases x12.nw p o q with z | z | z
        · rw [hf] at z; cases z
        · rw [upd_same] at z; cases z
        · have e1 := x12.fh _ _ q
          rw [hp2] at e1; cases e1
          exact z.elim
    refine ⟨F2, ks, d1, x12.fh, hp2, Rp.mono x2.ff r1, hdp, r2, fun es' re => ?_⟩
    have xt : Ext F H F2 (upd H2 p (dO X.w p es')) := by
      refine ⟨x12.ff, fun a o ha => ?_, same_upd2 x12.fh hf2, fun a o ha => ?_⟩
      · have na : a ≠ p := fun z => by rw [z, hp] at ha; cases ha
        rw [upd_ne na]
        exact x12.hh _ _ (by rw [upd_ne na]; exact ha)
      · rcases x12.nw a o ha with z | z | z
        · exact .inl z
        · refine .inr (.inl ?_)
          have na : a ≠ p := fun q => by rw [q, upd_same] at z; cases z
          rwa [upd_ne na] at z
        · exact .inr (.inr z)
    exact h2 (.ref p) F2 _ xt ⟨⟨p, rfl, .inr ⟨es', _, rfl, upd_same, re⟩⟩, p, rfl, hp, hf2⟩
  · exact h2.elim
/-! ### a comprehension's scope, for one within it -/
def retEx : Stmt → Expr
  | .Return (some e) _ => e
  | _ => .Tuple [] 0 ⟨0, 0, 0, 0⟩
def compSc : Expr → Scope
  | .ListComp _ _ sc _ => sc
  | _ => ⟨.function, [], false, false, []⟩
end
end DL

/-! The data layer: x >= y of alike data, xs.insert(i, x), one of some new lists. -/
namespace DL
open PySem PySem.Spec PyProof.Rows L2
section
variable {X : Cx} {W : WX}
/-! ### x >= y -/
def geT (x y : D) : M D := if PySem.W.alike x y = true ∧ notNone x = true ∧ eqOk x = true ∧ eqOk y = true then mok (.bool (!PySem.W.dataLt x y)) else none
theorem geT_ne (x y : D) (c : Value) : geT x y ≠ some (.error c) := by
  unfold geT
  split <;> intro h <;> cases h
theorem op_geTV (hu : X.A.units + 64 < cLine) : OpR X (compareOp .GtE) (rD X .v geT) := by
  intro pins s σ H x y v u Q I rx ry h
  obtain ⟨F, d, e, sm, sx, sy, h⟩ := h
  unfold geT at h
  split at h
  · rename_i hc
    obtain ⟨h1, h2, h3, h4⟩ := hc
    unfold eqOk at h3 h4
    rw [Bool.and_eq_true, decide_eq_true_eq] at h3 h4
    have e3 := h3
    have e4 := h4
    obtain ⟨as, ra⟩ := Rp.reads I d x v e3.1 (sx.all sm) rx
    obtain ⟨bs, rb⟩ := Rp.reads I e y u e4.1 (sy.all sm) ry
    have q := h (.bl _) F H (.refl sm) (.bl _)
    have hn : d ≠ .none := by rintro rfl; cases h2
    exact PySem.W.ge_data ra rb h1 hn (by have := e3.2; omega) ⟨.bl _, H, I, rfl, q⟩
  · exact h.elim
/-! ### xs.insert(i, x) -/
def dIns (i : Nat) (fk fx : DEnv → M D) (env : DEnv) : Option Out := match env[i]? with
  | some (some (.ow (.list ds))) => eS (fk env) env fun k => eS (fx env) env fun d => match k with
    | .int n => if 0 ≤ n ∧ n < 1000000 ∧ ds.length < sizeLine then some (.nx (env.set i (some (.ow (.list (ds.take n.toNat ++ [d] ++ ds.drop n.toNat)))))) else none
    | _ => none
  | _ => none
theorem ds_insert {i : Nat} {x : Str} {a b : Expr} {fa fb : DEnv → M D} {p2 apos cpos pos : Pos} (ha : DE X W .v a fa) (hb : DE X W .v b fb) (hi : X.N[i]? = some x := by rfl) (hv : Vis X.env.scope x := by first | exact Or.inl rfl | exact Or.inr (Or.inl rfl) | exact Or.inr (Or.inr rfl))
    (hd : (x == ("__debug__" : Str)) = false := by decide) (hcd : (x == ("__classdict__" : Str)) = false := by decide)
    (hbase : attributeBase (.Name x p2) "insert" X.env (eval (.Name x p2) X.env) = eval (.Name x p2) X.env := by rfl)
    (hfew : ((backTo cpos (starEach [a, b] X.env)).all (fun x => !x.1) && (backToKw cpos (keywordEach [] X.env)).all (fun x => x.1.isSome)
      && decide ([a, b].length + ([] : List Keyword).length + (if ([] : List Keyword).isEmpty then 0 else 1) < 30)) = true := by rfl)
    (hline : (apos.endLine == cpos.line) = true := by rfl) (hs : starEach [a, b] X.env = (false, eval a X.env) :: starEach [b] X.env := by rfl) (hs2 : starEach [b] X.env = (false, eval b X.env) :: starEach [] X.env := by rfl) (hplain : (backTo cpos (starEach [b] X.env)).any (·.1) = false := by rfl)
    (hsw : swapsWith (.Call (.Attribute (.Name x p2) "insert" apos) [a, b] [] cpos) none pos.line X.env = pure false := by rfl) :
    DS X W (.Expr (.Call (.Attribute (.Name x p2) "insert" apos) [a, b] [] cpos) pos) (dIns i fa fb) := by
  obtain ⟨ta, ha, qa⟩ := ha
  obtain ⟨tb, hb, qb⟩ := hb
  refine ⟨_, ps_expr (pe_bm PySem.F.plainAttrs_list PySem.F.slot_list_insert PySem.F.type_list_insert mt_insert (pe_var hi hv hd hcd) (pa_cons ha (pa_cons hb pa_nil hs2) hs) hbase hfew hline hs hplain) hsw, fun B F H σ env D ok h => ?_⟩
  unfold dIns at h
  split at h
  · rename_i ds q
    obtain ⟨l, vs, h1, h2, h3, h4⟩ := own_list ok q
    refine ⟨.ref l, h1, .inl ⟨rfl, _, .inl (.inl h2)⟩, qa B F H σ env _ ok ((AnsO.eS ok h).mono (fun d k v F' H' x r => ?_) fun c k => k)⟩
    have ok' := ok.mono x
    refine qb B F' H' σ env _ ok' ((AnsO.eS ok' k).mono (fun d2 k2 v2 F2 H2 x2 r2 => ?_) fun c k => k)
    split at k2
    · split at k2
      · rename_i n hz
        have r : Rp X.K X.w F' v (.int n) := r
        cases r
        have xx := x.trans x2
        refine ⟨l, vs, n, v2, rfl, rfl, xx.hh _ _ h2, by rw [h3.length]; exact hz.2.2, hz.1, by omega, ?_⟩
        refine k2 F2 _ σ ((ok.mono xx).write q h1 ⟨l, rfl, .inl ⟨vs.take n.toNat ++ [v2] ++ vs.drop n.toNat, _, rfl, upd_same, ?_⟩⟩)
        exact ((RpA.take n.toNat (h3.mono xx.ff)).append (.cons r2 .nil)).append (RpA.drop n.toNat (h3.mono xx.ff))
      · exact k2.elim
    · exact k2.elim
  · exact h.elim
/-! ### one of some new lists -/
theorem own_mono {K : PySem.W.Frag} {w : World} {H F1 H1 F2 H2 : Hp} {v : V} {d : D} (r : RM K w H F1 H1 .o v d) (e : Ext F1 H1 F2 H2) : RM K w H F2 H2 .o v d := by
  obtain ⟨h3, a, h4, h5, h6⟩ := r
  refine ⟨h3.mono e.ff e.hh, a, h4, h5, ?_⟩
  cases q : F2 a with
  | none => rfl
  | some o =>
    obtain ⟨b, o', h7, h8⟩ := h3.obj
    rw [h4] at h7; cases h7
    rcases e.nw a o q with z | z | z
    · rw [h6] at z; cases z
    · rw [h8] at z; cases z
    · have e1 := e.fh _ _ q
      rw [e.hh _ _ h8] at e1; cases e1
      subst h4
      exact absurd z (h3.notTp h8)
structure DAo (X : Cx) (W : WX) (es : List Expr) (f : DEnv → M (List D)) : Prop where
  len : ∀ env ds, f env = some (.ok ds) → ds.length = es.length
  run : ∃ t : TA, PA X es t ∧ ∀ (B : Bs X.A.handled) (F H : Hp) (σ : L2.St) (env : DEnv) (Q : List V → Hp → Prop), EnvOk X.K X.w B F H σ env →
    Ans (f env) (fun ds => ∀ vs F' H', Ext F H F' H' → Paired (RM X.K X.w H F' H' .o) vs ds → Q vs H') (fun c => ∀ F' H', Ext F H F' H' → W c none σ H') → t σ H Q
theorem dao_nil : DAo X W [] dNil := ⟨fun env ds h => by cases h; rfl, _, pa_nil, fun B F H σ env Q ok h => h [] F H (.refl ok.fh) .nil⟩
theorem dao_cons {a : Expr} {es : List Expr} {fa : DEnv → M D} {g : DEnv → M (List D)} (ha : DE X W .o a fa) (hr : DAo X W es g) (hs : starEach (a :: es) X.env = (false, eval a X.env) :: starEach es X.env := by rfl) : DAo X W (a :: es) (dCons fa g) := by
  obtain ⟨ta, ha, qa⟩ := ha
  obtain ⟨len, tb, hb, qb⟩ := hr
  refine ⟨fun env ds h => ?_, _, pa_cons ha hb hs, fun B F H σ env Q ok h => qa B F H σ env _ ok (h.bind.mono (fun d k v F1 H1 e1 r => ?_) fun c k => k)⟩
  · unfold dCons at h
    cases h1 : fa env with
    | none => rw [h1] at h; cases h
    | some r =>
      cases r with
      | error c => rw [h1] at h; cases h
      | ok x =>
        rw [h1] at h
        cases h2 : g env with
        | none => rw [mbind_ok, h2] at h; cases h
        | some r =>
          cases r with
          | error c => rw [mbind_ok, h2] at h; cases h
          | ok xs =>
            rw [mbind_ok, h2] at h
            cases h
            simp [len env xs h2]
  · refine qb B F1 H1 σ env _ (ok.mono e1) (k.bind.mono (fun ds k vs F2 H2 e2 rs => ?_) fun c k F' H' e => k F' H' (e1.trans e))
    refine k (v :: vs) F2 H2 (e1.trans e2) (.cons (own_mono r e2) ?_)
    clear k
    induction rs with
    | nil => exact .nil
    | cons p _ ih => exact .cons (RM.back e1.hh p) ih
def dPick (g : DEnv → M (List D)) (fb : DEnv → M D) (env : DEnv) : M D := mbind (g env) fun ds => mbind (fb env) fun k => match k with
  | .int i => match atI ds i with
    | some d => mok d
    | none => none
  | _ => none
theorem atI_pair {R : V → D → Prop} {vs : List V} {ds : List D} {i : Int} {d : D} (r : Paired R vs ds) (h : atI ds i = some d) : ∃ v, atI vs i = some v ∧ R v d := by
  unfold atI at h ⊢
  rw [Paired.length r]
  cases q : ixN ds.length i with
  | none => rw [q] at h; cases h
  | some j =>
    rw [q] at h
    exact paired_get r h
theorem de_pickO {es : List Expr} {b : Expr} {g : DEnv → M (List D)} {fb : DEnv → M D} {p pos : Pos} (hr : DAo X W es g) (hb : DE X W .v b fb) (hs : PlainIx b := by exact fun _ _ => rfl) (hz : es.length ≤ 1000 := by decide) : DE X W .o (.Subscript (.List es p) b pos) (dPick g fb) := by
  obtain ⟨len, ta, ha, qa⟩ := hr
  obtain ⟨tb, hb, qb⟩ := hb
  refine ⟨_, pe_ix ix_list (pe_lst ha) hb hs, fun B F H σ env Q ok h => ?_⟩
  refine qa B F H σ env _ ok (h.bind.monoE (fun ds e k vs F1 H1 e1 rs => ?_) fun c _ k => k)
  refine ⟨small_of hz ((Paired.length rs).trans (len env ds e)), fun q hq => ?_⟩
  have x := Ext.newO (o := .lst vs) e1.fh hq
  have ex := e1.trans x
  refine qb B F1 _ σ env _ (ok.mono ex) (k.bind.mono (fun d1 k1 v1 F2 H2 e2 r1 => ?_) fun c k F' H' e => k F' H' (ex.trans e))
  split at k1
  · split at k1
    · rename_i i _ d hd
      have r1 : Rp X.K X.w F2 v1 (.int i) := r1
      cases r1
      obtain ⟨v, hv, rv⟩ := atI_pair rs hd
      refine ⟨q, vs, i, v, rfl, rfl, .inl (.inl (e2.hh _ _ upd_same)), hv, ?_⟩
      exact k1 v F2 H2 (ex.trans e2) (own_mono (own_mono rv x) e2)
    · exact k1.elim
  · exact k1.elim
/-! ### sum(t), t a tuple or a list -/
theorem sum_tup {prog : Program} {w : World} {A : Around} {E : Value → Shared → Prop} {s : Shared} {l : Addr} {its : List Value} {ns : List Int} {Q : Value → Shared → Prop} (hh : A.handled = none) (hl : s.heap.IsTuple l its.toArray) (hi : IntsAre its ns)
    (h : ∀ h' tk t', (∀ b o, s.heap.get? b = some o → h'.get? b = some o) → Q (.int ns.sum t') { s with heap := h', toks := tk }) : wpAny (model prog w) A (call (.builtin "sum") [.ref l]) Q E s := by
  obtain ⟨xs, e⟩ := hi.allInts.items
  have hn : numsOf (intItems xs).toList = ns := by rw [← e]; exact hi.numsOf
  rw [nums_intItems] at hn
  rw [e] at hl
  refine PySem.W.ktm_sumG hh hl fun h' tk t' hk => ?_
  have := h h' tk t' hk
  first
    | (rw [preSum_eq, List.take_of_length_le (by simp), hn]; exact this)
    | (rw [hn]; exact this)
def sumT : List D → M D
  | [.tuple xs] => match intsOf xs with
    | some ns => mok (.int ns.sum)
    | none => none
  | _ => none
theorem sumT_ne (ds : List D) (c : Value) : sumT ds ≠ some (.error c) := by
  unfold sumT
  split
  · split <;> intro h <;> cases h
  · intro h; cases h
theorem call_sumTV (hc : X.calm = true) : CallR X (.builtin "sum") (rC X .v sumT) := by
  intro pins s σ H xs us Q I r h
  obtain ⟨F, ds, sm, sx, h⟩ := h
  unfold sumT at h
  split at h
  · split at h
    · rename_i hn
      obtain ⟨v, rfl, k⟩ := pair1 sx
      obtain ⟨a, vs, rfl, ha, ra⟩ := k.tuple sm
      rw [of_intsOf hn] at ra
      rw [ints_rel ra] at ha
      obtain ⟨its, rv, hl, _⟩ := I.tuple ha
      rw [Vals.ref1 r]
      exact sum_tup (I.ok.hd hc) hl rv.ints fun h' tk t' hk => ⟨.int _, H, I.kept hk, ⟨_, rfl⟩, h _ F H (.refl sm) (.int _)⟩
    · exact h.elim
  · exact h.elim
end
end DL

/-! The data layer: dict(pairs). -/
namespace DL
open PySem PySem.Spec PyProof.Rows L2
/-! ### dict(pairs) -/
def pairsD : List D → Option (List (D × D))
  | [] => some []
  | .tuple [k, v] :: r => if keyOk k = true then (pairsD r).map ((k, v) :: ·) else none
  | _ :: _ => none
def dictL (ps : List (D × D)) : List (D × D) := ps.foldl (fun acc p => putD acc p.1 p.2) []
def dictD : List D → M D
  | [.tuple xs] => match pairsD xs with
    | some ps => if fmk xs = true then mok (.dict (dictL ps)) else none
    | none => none
  | _ => none
theorem dictD_ne (ds : List D) (c : Value) : dictD ds ≠ some (.error c) := by
  unfold dictD
  split
  · split
    · split <;> intro h <;> cases h
    · intro h; cases h
  · intro h; cases h
structure PRow where
  T : Addr
  ks : List NestedKey
  b : Addr
  x : V
  u : Value
  d : D
section
variable {X : Cx}
structure PRow.Ok (X : Cx) (F H : Hp) (h : Heap) (r : PRow) : Prop where
  at_ : IsTup h r.T #[.ref r.b, r.u]
  key : Rp X.K X.w F (.ref r.b) (NestedKey.tup r.ks).data
  dep : (NestedKey.tup r.ks).depth ≤ 8
  val : Rp X.K X.w F r.x r.d
  rel : RelV r.x r.u
  is : (nestedKind X.prog X.w).is h (.tup r.ks) r.b
theorem rows_of {pins : List (Addr × Obj)} {s : Shared} {σ : L2.St} {F H : Hp} (I : Inv X pins σ H s) (sm : Same F H) : ∀ {vs : List V} {ds : List D} {ps : List (D × D)} {us : List Value}, RpA X.K X.w F vs ds → pairsD ds = some ps → Vals vs us →
    ∃ rows : List PRow, (∀ r ∈ rows, r.Ok X F H s.heap) ∧ us = rows.map (fun r => Value.ref r.T) ∧ ps = rows.map fun r => ((NestedKey.tup r.ks).data, r.d)
  | [], _, _, _, .nil, h, .nil => by
    cases h
    exact ⟨[], (by intro r hr; cases hr), rfl, rfl⟩
  | v :: vs, d :: ds, ps, u :: us, .cons r1 r2, h, .cons v1 v2 => by
    unfold pairsD at h
    split at h
    · cases ‹_ :: _ = []›
    · rename_i k c rr e
      injection e with e1 e2
      subst e1 e2
      split at h
      · rename_i hk
        obtain ⟨ps', h1, rfl⟩ := Option.map_eq_some_iff.mp h
        obtain ⟨rows, q1, q2, q3⟩ := rows_of I sm r2 h1 v2
        obtain ⟨ks, rfl, hdp⟩ := keyOk_key hk
        cases r1 with
        | tup hT rA hnc =>
          cases rA with
          | cons ra rB =>
            cases rB with
            | cons rb rN =>
              cases rN
              obtain ⟨its, rv, hI, _⟩ := I.tuple (sqT_mono sm hT)
              cases rv with
              | cons w1 w2 =>
                cases w2 with
                | cons w3 w4 =>
                  cases w4
                  obtain ⟨b, rfl, rfl, his⟩ := key_is I sm ra w1 hdp
                  cases v1
                  rename_i T0 x0 u0 hlen
                  refine ⟨⟨T0, ks, b, x0, u0, c⟩ :: rows, ?_, by rw [q2]; rfl, by rw [q3]; rfl⟩
                  intro r hr
                  rcases List.mem_cons.mp hr with rfl | hr
                  · exact ⟨hI, ra, hdp, rb, w3, his⟩
                  · exact q1 r hr
      · cases h
    · cases h
theorem nice_of {F H : Hp} {v : V} {ds : List D} (k : Sh X.K X.w F H v (.tuple ds)) (sm : Same F H) (hf : fmk ds = true) : ∃ a vs, v = .ref a ∧ SqT X.K H a vs ∧ RpA X.K X.w F vs ds ∧ Nice X.K F a := by
  rcases k with z | z
  · cases z with
    | tup h1 h2 h3 => exact ⟨_, _, rfl, sqT_mono sm h1, h2, h3 hf⟩
  · obtain ⟨_, _, ⟨_, _, z, _⟩ | ⟨_, _, z, _⟩⟩ := z <;> cases z
theorem put_rows {F : Hp} : ∀ (rows : List PRow) {es : List (NestedKey × V × V)} {kvs : List (D × D)} {xs : List (NestedKey × Addr × Value)}, (∀ r ∈ rows, Rp X.K X.w F (.ref r.b) (NestedKey.tup r.ks).data ∧ RelV r.x r.u ∧ Rp X.K X.w F r.x r.d) → RpE X.K X.w F es kvs → Paired EnX es xs →
    RpE X.K X.w F (rows.foldl (fun acc r => putE acc (.tup r.ks) (.ref r.b) r.x) es) ((rows.map fun r => ((NestedKey.tup r.ks).data, r.d)).foldl (fun acc p => putD acc p.1 p.2) kvs) ∧ Paired EnX (rows.foldl (fun acc r => putE acc (.tup r.ks) (.ref r.b) r.x) es) (storedAllH xs (rows.map fun r => (NestedKey.tup r.ks, r.b, r.u)))
  | [], _, _, _, _, h, q => ⟨h, q⟩
  | r :: rows, es, kvs, xs, hr, h, q => by
    obtain ⟨h1, h2, h3⟩ := hr r List.mem_cons_self
    obtain ⟨i1, i2⟩ := put_rel h1 h2 h3 h q
    exact put_rows rows (fun r hr' => hr r (List.mem_cons_of_mem _ hr')) i1 i2
theorem put_rows_len : ∀ (rows : List PRow) (es : List (NestedKey × V × V)), (rows.foldl (fun acc r => putE acc (.tup r.ks) (.ref r.b) r.x) es).length ≤ es.length + rows.length
  | [], _ => Nat.le_refl _
  | r :: rows, es => by
    have h1 := put_rows_len rows (putE es (.tup r.ks) (.ref r.b) r.x)
    have h2 := putE_len (es := es) (k := .tup r.ks) (kv := .ref r.b) (v := r.x)
    rw [List.foldl_cons, List.length_cons]
    omega
theorem put_rows_mem {P : NestedKey → Prop} : ∀ (rows : List PRow) (es : List (NestedKey × V × V)), (∀ x ∈ es, P x.1) → (∀ r ∈ rows, P (.tup r.ks)) → ∀ x ∈ rows.foldl (fun acc r => putE acc (.tup r.ks) (.ref r.b) r.x) es, P x.1
  | [], _, h, _ => h
  | r :: rows, es, h, hr => put_rows_mem rows _ (putE_mem h (hr r List.mem_cons_self)) fun r hr' => hr r (List.mem_cons_of_mem _ hr')
theorem call_dictO (hc : X.calm = true) (hu : X.A.units + 64 < cLine) : CallR X (.type "dict") (rC X .o dictD) := by
  intro pins s σ H xs us Q I r h
  obtain ⟨F, ds, sm, sx, h⟩ := h
  unfold dictD at h
  split at h
  · split at h
    · rename_i ps hps
      split at h
      rotate_left
      · exact h.elim
      rename_i hfm
      obtain ⟨v, rfl, k⟩ := pair1 sx
      obtain ⟨a, vs, rfl, ha, ra, hn⟩ := nice_of k sm hfm
      obtain rfl := Vals.ref1 r
      obtain ⟨its, rv, ⟨o, e, hcl, n, hd⟩, hz⟩ := I.tuple ha
      have hdn : o.dict = none := by
        rcases hn with ⟨o', vs', h1, h2⟩ | ⟨o', h1, h2⟩
        · obtain ⟨q, _⟩ := (show ObjOk X.prog X.w H s.heap a (.frz o' (.tup vs')) from I.hok a _ (sm _ _ h1))
          rw [e] at q
          cases q
          exact h2
        · have q := I.kIn a o' h1
          rw [e] at q
          cases q
          exact h2
      obtain ⟨rows, q1, q2, q3⟩ := rows_of I sm ra hps rv
      have hlr : rows.length ≤ sizeLine := by
        have h1 := Paired.length rv
        rw [q2, List.length_map] at h1
        omega
      have hps2 : ∀ j k v, (rows.map fun r => (Value.ref r.b, r.u))[j]? = some (k, v) → ∃ r : PRow, rows[j]? = some r ∧ k = Value.ref r.b ∧ v = r.u := fun j k v hj => by
        rw [List.getElem?_map] at hj
        cases hq : rows[j]? with
        | none => rw [hq] at hj; cases hj
        | some r => rw [hq] at hj; cases hj; exact ⟨r, hq, rfl, rfl⟩
      have hh : X.A.handled = none := I.ok.hd hc
      refine call_dict_pairsH (knd := nestedKind X.prog X.w) (ps := rows.map fun r => (NestedKey.tup r.ks, r.b, r.u)) (PairArg.tuple a its.toArray (fun j => ((rows[j]?).map (·.T)).getD 0) (rows.map fun r => (Value.ref r.b, r.u))) hh (by show X.A.units + 1 + 1 + 8 < cLine; omega) ⟨⟨o, n, e, hcl, hdn, hd⟩, ⟨by rw [q2]; simp, fun j k v hj => ?_⟩⟩ ⟨by simp, fun i key v hi => ?_⟩ (fun h' hk x hx => ?_) (by rw [List.length_map]; exact hlr) fun h' tk hm hk => ?_
      · obtain ⟨r, hr, rfl, rfl⟩ := hps2 j k v hj
        have hR := q1 r (List.mem_of_getElem? hr)
        refine ⟨by rw [q2]; simp [hr], ?_⟩
        have eT : ((rows[j]?).map (·.T)).getD 0 = r.T := by rw [hr]; rfl
        show PairAt s.heap (((rows[j]?).map (·.T)).getD 0) _ _
        rw [eT]
        exact .inl hR.at_
      · obtain ⟨r, hr, rfl, rfl⟩ := hps2 i key v hi
        exact ⟨_, r.b, by rw [List.getElem?_map, hr]; rfl, rfl⟩
      · obtain ⟨r, hr, rfl⟩ := List.mem_map.mp hx
        have hR := (q1 r hr).is
        refine ⟨NestedIs.at (fun b ob vs n hb _ => hk b ob (Nat.ne_of_lt (Heap.lt_size hb)) (by simp) hb) _ _ hR.1, hR.2⟩
      · have hp0 := I.hok.fresh (Nat.le_refl s.heap.objs.size)
        obtain ⟨re, pe⟩ := put_rows (X := X) (F := F) rows (es := []) (kvs := []) (xs := []) (fun r hr => ⟨(q1 r hr).key, (q1 r hr).rel, (q1 r hr).val⟩) .nil .nil
        obtain ⟨x', ex', hno'⟩ := dict_to (P := X.prog) (w := X.w) (H' := H) (beq_eq_false_iff_ne.mpr (Ne.symm (Nat.ne_of_lt I.big))) (by have := put_rows_len rows []; simp at this; omega) (put_rows_mem (P := fun k => k.depth ≤ 8 ∧ ∃ ks, k = .tup ks) rows [] (by intro x hx; cases hx) fun r hr => ⟨(q1 r hr).dep, _, rfl⟩) hm pe
        have I2 := I.laid (h' := h') (t' := tk) (a := s.heap.objs.size) (fun b ob hb => hk b ob (by simp) hb) (Nat.le_refl _) hno'
        refine ⟨.ref s.heap.objs.size, _, I2, rfl, h _ F _ (Ext.newO sm hp0) ?_⟩
        refine ⟨⟨_, rfl, .inr ⟨x', _, rfl, upd_same, ?_⟩⟩, _, rfl, hp0, sm.free hp0⟩
        rw [ex']
        unfold dictL
        rw [q3]
        exact re
    · exact h.elim
  · exact h.elim
end
end DL

/-! The data layer: a comprehension over d.items() whose target is a name. -/
namespace DL
open PySem PySem.Spec PySem.W PyProof.Rows L2
section
variable {prog : Program} {w : World} {A : Around} {E : Value → Shared → Prop} {s : Shared}
theorem alive_any {a : Addr} {Q : Option Obj → Shared → Prop} (h : Q (s.heap.get? a) s) : wpAny (model prog w) A (loadIfAlive a) Q E s := fun _ _ _ => h
/-- the pair that is handed out is new, whatever became of the first one -/
theorem pair_new {h : Heap} {it d a : Addr} {f : Bool} {i n ep : Nat} {ok ov key val : Value} {g : _} {dr : _} {tk : _} {os : _} {Q : Value → Shared → Prop} (hit : KdxIt h it d i n ep ok ov a f)
    (hQ : ∀ h' ok' ov' a' f', KdxIt h' it d i n ep ok' ov' a' f' → h'.get? h.objs.size = some { cls := .type "tuple", data := .seq #[key, val] } → h'.objs.size = h.objs.size + 1 → (∀ b o, b ≠ it → h.get? b = some o → h'.get? b = some o) → Q (.ref h.objs.size) ⟨h', g, dr, tk, os⟩) :
    wpAny (model prog w) A (Builtin.Dict_items.pairFromOwner (.ref it) 6 key val) Q E ⟨h, g, dr, tk, os⟩ := by
  unfold Builtin.Dict_items.pairFromOwner
  refine wpAny_bind (wpAny_newTuple ?_)
  have hil : it < h.objs.size := Heap.lt_size hit
  have e2 : KdxIt (h.push { cls := .type "tuple", data := .seq #[key, val] }) it d i n ep ok ov a f := Heap.get?_push_of_some _ hit
  have t2 : (h.push { cls := .type "tuple", data := .seq #[key, val] }).get? h.objs.size = some { cls := .type "tuple", data := .seq #[key, val] } := Heap.get?_push_size _ rfl
  have z2 : (h.push { cls := .type "tuple", data := .seq #[key, val] }).objs.size = h.objs.size + 1 := Heap.size_push ..
  have k2 : ∀ b o, b ≠ it → h.get? b = some o → (h.push { cls := .type "tuple", data := .seq #[key, val] }).get? b = some o := fun b o _ e => Heap.get?_push_of_some _ e
  show wpAny _ _ (Builtin.Dict_items.ownedTupleIsFree (.ref it) >>= _) _ _ ⟨h.push { cls := .type "tuple", data := .seq #[key, val] }, g, dr, tk, os⟩
  generalize h.push { cls := .type "tuple", data := .seq #[key, val] } = h2 at e2 t2 z2 k2 ⊢
  have fin : ∀ {h3 ok' ov' a' f'}, KdxIt h3 it d i n ep ok' ov' a' f' → Heap.SameBut it h2 h3 → Q (.ref h.objs.size) ⟨h3, g, dr, tk, os⟩ := fun {h3 ok' ov' a' f'} e3 s3 =>
    hQ h3 ok' ov' a' f' e3 (s3.extBut _ _ (Nat.ne_of_gt hil) t2) (by rw [s3.1, z2]) fun b o hb e => s3.extBut b o hb (k2 b o hb e)
  refine wpAny_bind ?_
  unfold Builtin.Dict_items.ownedTupleIsFree
  refine wpAny_bind (wpAny_field e2 rfl (x := rawInt a) rfl ?_)
  show wpAny _ _ (loadIfAlive ((a : Int).toNat) >>= _) _ _ _
  rw [Int.toNat_natCast]
  refine wpAny_bind (alive_any ?_)
  show wpAny _ _ (if (h2.get? a).isNone = true then _ else _) _ _ _
  cases hq : (h2.get? a).isNone with
  | true =>
    simp only [if_true]
    refine wpAny_pure ?_
    simp only [if_true]
    refine wpAny_bind (wpAny_field e2 rfl (x := ok) rfl ?_)
    refine wpAny_bind (wpAny_field e2 rfl (x := ov) rfl ?_)
    refine wpAny_bind (wpAny_setField_rec e2 (by simp) fun h3 e3 s3 => ?_)
    refine wpAny_bind (wpAny_setField_rec e3 (by simp) fun h4 e4 s4 => ?_)
    refine wpAny_bind (wpAny_setField_rec e4 (by simp) fun h5 e5 s5 => ?_)
    refine wpAny_bind (wpAny_setField_rec e5 (by simp) fun h6 e6 s6 => ?_)
    have e6 : KdxIt h6 it d i n ep key val h.objs.size false := e6
    have s26 : Heap.SameBut it h2 h6 := ((s3.trans s4).trans s5).trans s6
    exact wpAny_bind (wpAny_letGo (wpAny_pure (fin e6 s26)))
  | false =>
    simp only [Bool.false_eq_true, if_false]
    refine wpAny_bind (wpAny_field e2 rfl (x := .bool f) rfl ?_)
    cases f with
    | true =>
      rw [if_neg (show ¬ ((Value.bool true != Value.bool true) = true) from Bool.false_ne_true)]
      refine wpAny_pure ?_
      simp only [Bool.false_eq_true, if_false]
      exact wpAny_pure (fin e2 (Heap.SameBut.refl _ _))
    | false =>
      rw [if_pos (show (Value.bool false != Value.bool true) = true from rfl)]
      refine wpAny_bind (wpAny_setField_rec e2 (by simp) fun h3 e3 s3 => ?_)
      have e3 : KdxIt h3 it d i n ep ok ov a true := e3
      refine wpAny_pure ?_
      simp only [Bool.false_eq_true, if_false]
      exact wpAny_pure (fin e3 s3)
/-- a further pair -/
theorem next_any {it d a : Addr} {f : Bool} {i ep : Nat} {es : Array DictEntry} {ok ov : Value} {Q : Option Value → Shared → Prop} (hit : KdxIt s.heap it d i es.size ep ok ov a f) (hm : DT.Raw s.heap d es ep) (hi : i < es.size)
    (hQ : ∀ h' ok' ov' a' f', KdxIt h' it d (i + 1) es.size ep ok' ov' a' f' → h'.get? s.heap.objs.size = some { cls := .type "tuple", data := .seq #[es[i].key, es[i].val] } → h'.objs.size = s.heap.objs.size + 1 →
      (∀ b o, b ≠ it → s.heap.get? b = some o → h'.get? b = some o) → Q (some (.ref s.heap.objs.size)) { s with heap := h' }) :
    wpAny (model prog w) A (pyNext (.ref it)) Q E s := by
  obtain ⟨hp, g, dr, tk, os⟩ := s
  obtain ⟨od, hod, hcd, hdd⟩ := id hm
  have hT : ∀ h : Heap, KdxIt h it d i es.size ep ok ov a f → Shared.TypeIs ⟨h, g, dr, tk, os⟩ (.ref it) "dict_itemiterator" := fun h e => ⟨_, e, rfl⟩
  have hT0 := hT hp hit
  have hown : Builtin.Dict_items.ownsTuple "dict_itemiterator" = true := by decide
  have hne : ¬ ((i : Int) < 0) := by omega
  unfold pyNext
  refine wpAny_bind (wpAny_attempt (wpAny_callSpecial?_slot (name := Str.ofString "__next__") hT0 PySem.F.slot_dict_itemiterator_next
    (wpAny_call_entry PySem.F.slot_dict_itemiterator_next hT0 PySem.F.entry_dict_itemiterator_next ?_ (PySem.F.args_dict_itemiterator_next_1 _))))
  refine wpAny_bind (wpAny_pure (wpAny_bind (wpAny_bind ?_)))
  first | refine wpAny_bind (wpAny_typeNameOfWhole_itemiter hT0 (wpAny_pure ?_)) | refine wpAny_bind (wpAny_typeNameOf_itemiter hT0 (wpAny_pure ?_))
  refine wpAny_bind (wpAny_fieldsOf hit rfl ?_)
  simp only [hown, if_true]
  show wpAny _ _ (if (Value.ref d == Value.none) = true then _ else _) _ _ _
  rw [if_neg (show ¬ ((Value.ref d == Value.none) = true) from Bool.false_ne_true)]
  refine wpAny_bind (wpAny_pure (wpAny_bind (wpAny_dictEntries hod hdd ?_)))
  rw [if_neg (by simp)]
  refine wpAny_bind (wpAny_pure (wpAny_bind (wpAny_dictEpoch hod hdd ?_)))
  rw [if_neg (by simp)]
  refine wpAny_pure ?_
  simp only [hne, if_false, Int.toNat_natCast, Array.getElem?_eq_getElem hi]
  refine wpAny_bind ?_
  first | refine wpAny_bind (wpAny_typeNameOfWhole_itemiter hT0 (wpAny_pure ?_)) | refine wpAny_bind (wpAny_typeNameOf_itemiter hT0 (wpAny_pure ?_))
  refine wpAny_bind (wpAny_isOneOf_itemiter hT0 ?_)
  show wpAny _ _ (setField (.ref it) 3 (rawInt ((i : Int) + 1)) >>= _) _ _ ⟨hp, g, dr, tk, os⟩
  refine wpAny_bind (wpAny_setField_rec hit (by simp) fun h1 e1 s1 => ?_)
  have e1 : KdxIt h1 it d (i + 1) es.size ep ok ov a f := by
    have e : ((i + 1 : Nat) : Int) = (i : Int) + 1 := by omega
    unfold KdxIt
    rw [e]
    simpa [rawInt] using e1
  have s1 : Heap.SameBut it hp h1 := s1
  have hT1 : Shared.TypeIs ⟨h1, g, dr, tk, os⟩ (.ref it) "dict_itemiterator" := ⟨_, e1, rfl⟩
  refine wpAny_bind (wpAny_holding (wpAny_bind (wpAny_isOneOf_itemiter hT1 (wpAny_bind (wpAny_isOneOf_itemiter hT1 ?_)))))
  have hz : h1.objs.size = hp.objs.size := s1.1
  refine pair_new (Q := fun v s' => wpAny _ _ _ _ _ _) e1 fun h' ok' ov' a' f' q1 q2 q3 q4 => ?_
  rw [hz] at q2 q3 ⊢
  exact wpAny_pure ⟨_, rfl, wpAny_pure (hQ h' ok' ov' a' f' q1 q2 q3 fun b o hb e => q4 b o hb (s1.extBut b o hb e))⟩
end
/-! ### for pair in d.items() -/
def StN (h : Heap) (it d : Addr) (i n ep : Nat) : Prop := (∃ ok ov, IsItemIter h it d i n ep ok ov) ∨ ∃ ok ov a f, KdxIt h it d i n ep ok ov a f
theorem turn_itemsN {P : Program} {w : World} {K : PySem.W.Frag} {a : Addr} {x : DR} {y : Str} {tpos : Pos} (it : Addr) :
    Turn P w K (.Name y tpos) (ItD w a x) [it] it (fun i h => StN h it a i x.en.size x.ep) where
  mem := by simp
  obj := fun i h st b hb => by
    have e : b = it := by simpa using hb
    subst e
    rcases st with ⟨ok, ov, e⟩ | ⟨ok, ov, c, f, e⟩
    · exact ⟨_, e, fun v z => nomatch z⟩
    · exact ⟨_, e, fun v z => nomatch z⟩
  keep := fun i h h' st k => by
    rcases st with ⟨ok, ov, e⟩ | ⟨ok, ov, c, f, e⟩
    · exact .inl ⟨ok, ov, k it (by simp) _ e⟩
    · exact .inr ⟨ok, ov, c, f, k it (by simp) _ e⟩
  item := by
    intro X hP hw hK hc i pins s σ H E I hf st hg
    subst hP hw hK
    obtain ⟨ha, hi⟩ := hg
    obtain ⟨⟨_, _, _, _, o, ho, hx, hdat, hp⟩, _, _⟩ := I.hok a _ ha
    have l1 : x.es.length = x.en.size := by rw [Paired.length hp]; simp
    have hi2 : i < x.en.size := by omega
    have hlt : it < s.heap.objs.size := by
      rcases st with ⟨ok, ov, e⟩ | ⟨ok, ov, c, f, e⟩
      · exact Heap.lt_size e
      · exact Heap.lt_size e
    obtain ⟨e, h1, _, h3, h4⟩ := paired_get (i := i) (y := x.en[i]) hp (by rw [Array.getElem?_toList]; exact Array.getElem?_eq_getElem hi2)
    have fin : ∀ h' : Heap, StN h' it a (i + 1) x.en.size x.ep → h'.get? s.heap.objs.size = some { cls := .type "tuple", data := .seq #[x.en[i].key, x.en[i].val] } → (∀ b o, b ≠ it → s.heap.get? b = some o → h'.get? b = some o) →
        ∃ u, some (Value.ref s.heap.objs.size) = some u ∧ wpAny (model X.prog X.w) X.A (letOwnedTupleGo (.Name y tpos) (.ref it) u) (fun _ s2 => ∃ z H', Inv X pins σ H' s2 ∧ RelV z u ∧ (ItD X.w a x).yld i H z H' ∧ StN s2.heap it a (i + 1) x.en.size x.ep ∧ ∀ b ∈ [it], H' b = none) E { s with heap := h' } := fun h' st' hT hk => by
      refine ⟨_, rfl, wpAny_pure ?_⟩
      have new : ObjOk X.prog X.w (upd H s.heap.objs.size (.tup [e.2.1, e.2.2])) h' s.heap.objs.size (.tup [e.2.1, e.2.2]) :=
        ⟨by show 2 ≤ sizeLine; decide, [x.en[i].key, x.en[i].val], .cons h3 (.cons h4 .nil), ⟨_, hT, rfl, _, rfl⟩⟩
      have I1 : Inv X pins σ (upd H s.heap.objs.size (.tup [e.2.1, e.2.2])) { s with heap := h' } :=
        I.turnedNew (t' := s.toks) (ch := [it]) (fun b ob hb e => hk b ob (by simpa using hb) e) hf (Nat.le_refl _) new
      refine ⟨.ref s.heap.objs.size, _, I1, rfl, ⟨_, e.1, e.2.1, e.2.2, h1, rfl, I.hok.fresh (Nat.le_refl _), rfl⟩, st', fun b hb => ?_⟩
      have e : b = it := by simpa using hb
      rw [e, upd_ne (Nat.ne_of_lt hlt)]
      exact (hf it (by simp)).1
    rcases st with ⟨ok, ov, he⟩ | ⟨ok, ov, c, f, he⟩
    · exact DT.nextI he ⟨o, ho, hx, hdat⟩ hi2 fun h' ho' hT hz hk => fin h' (.inr ⟨_, _, _, _, ho'⟩) hT hk
    · exact next_any he ⟨o, ho, hx, hdat⟩ hi2 fun h' ok' ov' a' f' ho' hT hz hk => fin h' (.inr ⟨_, _, _, _, ho'⟩) hT hk
  done := by
    intro X hP hw hK hc i pins s σ H E I hf st hg
    subst hP hw hK
    obtain ⟨ha, hi⟩ := hg
    obtain ⟨f0, f1, f2, f3, f4, f5⟩ := hf it (by simp)
    obtain ⟨⟨_, _, _, _, o, ho, hx, hdat, hp⟩, _, _⟩ := I.hok a _ ha
    have l1 : x.es.length = x.en.size := by rw [Paired.length hp]; simp
    rcases st with ⟨ok, ov, he⟩ | ⟨ok, ov, c, f, he⟩
    · exact DT.endI (I.ok.hd hc) he ⟨o, ho, hx, hdat⟩ (by omega) fun h' eb => ⟨rfl, I.turned (t' := s.toks) (fun b ob hb e => eb b ob hb e) f0 f1 f3 f4 f5⟩
    · exact DT.endO (I.ok.hd hc) he ⟨o, ho, hx, hdat⟩ (by omega) fun h' eb => ⟨rfl, I.turned (t' := s.toks) (fun b ob hb e => eb b ob hb e) f0 f1 f3 f4 f5⟩
  self := fun A i s Q E st h => by
    rcases st with ⟨ok, ov, he⟩ | ⟨ok, ov, c, f, he⟩
    · exact PySem.W.kcp_self he h
    · have hT : s.TypeIs (.ref it) "dict_itemiterator" := ⟨_, he, rfl⟩
      refine wpAny_pyIter_slot hT PySem.F.slot_dict_itemiterator_iter (wpAny_call_entry PySem.F.slot_dict_itemiterator_iter hT kcp_entry ?_ (PySem.F.args_dict_itemiterator_iter_1 _))
      exact wpAny_pure ⟨_, rfl, "dict_itemiterator", _, hT, PySem.F.slot_dict_itemiterator_next.lookup, h⟩
section
variable {X : Cx} {W : WX}
theorem pi_itemsN {e : Expr} {td : TE} {apos cpos : Pos} {y : Str} {tpos : Pos} (he : PE X e td) (hbase : attributeBase e "items" X.env (eval e X.env) = eval e X.env := by rfl) (hline : (apos.endLine == cpos.line) = true := by rfl) :
    PI X (.Name y tpos) (.Call (.Attribute e "items" apos) [] [] cpos) (iItemsD X.w td) := by
  refine ⟨fun pins s σ H R I h => ?_⟩
  refine wpAny_Call_method (T := "dict") (id := "dict.items") hbase rfl hline PySem.F.plainAttrs_dict PySem.F.slot_dict_items PySem.F.type_dict_items (thn (he.run pins s σ H _ I h) fun u s1 ⟨x, H1, I1, rx, d, dr, ex, hd, q⟩ => ?_)
  subst ex
  obtain rfl : u = Value.ref d := rx
  obtain ⟨t1, t2⟩ := dict_ty I1 hd
  obtain ⟨⟨hs, _, _, _, o, ho, hx, hdat, hp⟩, _, _⟩ := I1.hok d _ hd
  refine ⟨t1, t2, ?_⟩
  have I2 : Inv X pins σ H1 { s1 with heap := s1.heap.push { cls := .type "dict_items", data := .fields #[.ref d] } } := I1.kept (t' := s1.toks) fun b ob q => Heap.get?_push_of_some _ q
  have rw1 : DT.Raw s1.heap d dr.en dr.ep := ⟨o, ho, hx, hdat⟩
  have fin : wpAny (model X.prog X.w) X.A (pyIter (.ref s1.heap.objs.size)) (PIE X pins σ (.Name y tpos) R) X.xe { s1 with heap := s1.heap.push { cls := .type "dict_items", data := .fields #[.ref d] } } :=
    DT.iterI (d := d) ⟨_, Heap.get?_push_size _ rfl, rfl, rfl⟩ (rw1.push _) (pi_one (tk := s1.toks) I2 _ (turn_itemsN _) (.inl ⟨.none, .none, Heap.get?_push_size _ rfl⟩) q)
  show wpAny _ _ (callWith cpos (.builtin "dict.items") [.ref d] [] []) _ X.xe s1
  exact method_meetsIn PySem.F.slot_dict_items PySem.F.entry_dict_items rfl (PySem.evalArgs_none ⟨rfl, rw1.typeIs, PySem.F.args_dict_items_1 _, _, DT.meetsItems (es := dr.en) (ep := dr.ep) hs, ⟨rw1, fin⟩⟩)
theorem di_itemsN {e : Expr} {f : DEnv → M D} {apos cpos : Pos} {y : Str} {tpos : Pos} (he : DE X W .v e f) (hbase : attributeBase e "items" X.env (eval e X.env) = eval e X.env := by rfl) (hline : (apos.endLine == cpos.line) = true := by rfl) :
    DI X W (.Name y tpos) (.Call (.Attribute e "items" apos) [] [] cpos) (dIt asItems f) := by
  obtain ⟨t, he, q⟩ := he
  refine ⟨_, pi_itemsN he hbase hline, fun B F H σ env R ok h => q B F H σ env _ ok (h.bind.mono (fun d k v F' H' x r => ?_) fun c k => k)⟩
  have r : Rp X.K X.w F' v d := r
  unfold asItems at k
  split at k
  · split at k
    rotate_left
    · exact k.elim
    rename_i hplain
    cases r with
    | dic h1 re =>
      refine ⟨_, _, rfl, x.fh _ _ h1, k _ F' H' x ⟨fun F2 H2 i d1 s1 s2 hd => ?_, fun F2 H2 s1 s2 => ?_⟩⟩
      · have ha := s2 _ _ (s1 _ _ h1)
        have hl := RpE.length re
        have hil : i < _ := (List.getElem?_eq_some_iff.mp hd).1
        have hd0 := hd
        unfold itemsD at hil hd
        rw [List.length_map] at hil
        refine ⟨⟨ha, by omega⟩, fun x1 H3 y => ?_⟩
        obtain ⟨T, k, kv, u, e1, rfl, hT, rfl⟩ := y
        obtain ⟨dd, e2, r1, r2⟩ := rpE_get re e1
        rw [List.getElem?_map, e2] at hd
        cases hd
        have hff := plainP_at hplain hd0
        have xx := Ext.newF (o := .tup [kv, u]) s2 hT
        exact ⟨_, xx, .tup (.inl (.inl upd_same)) (.cons ((r1.mono s1).mono xx.ff) (.cons ((r2.mono s1).mono xx.ff) .nil)) fun z => by rw [hff] at z; cases z⟩
      · refine ⟨s2 _ _ (s1 _ _ h1), ?_⟩
        unfold itemsD
        rw [List.length_map, RpE.length re]
        exact Nat.le_refl _
  · exact k.elim
end
end DL

/-! The data layer: a def that changes a dict handed in. -/
namespace DL
open PySem PySem.Spec PyProof.Rows L2
def hole (H : Hp) (p : Addr) : Hp := fun a => if a = p then none else H a
theorem hole_ne {H : Hp} {p a : Addr} (h : a ≠ p) : hole H p a = H a := if_neg h
theorem hole_at {H : Hp} {p : Addr} : hole H p p = none := if_pos rfl
theorem hole_same {H : Hp} {p : Addr} : Same (hole H p) H := fun a o h => by
  unfold hole at h
  split at h
  · cases h
  · exact h
def spM (K : PySem.W.Frag) (w : World) (n : Nat) (G : List D → List (D × D) → Option (List (D × D))) : Sp := fun vs H Q E =>
  ∃ (us : List V) (p : Addr) (es : DR) (F : Hp) (ds : List D) (kvs : List (D × D)), vs = us ++ [.ref p] ∧ vs.length = n ∧ Same F H ∧ F p = none ∧ H p = some (dO w p es) ∧ RpE K w F es.es kvs ∧ RpA K w F us ds ∧ match G ds kvs with
    | none => False
    | some kvs' => ∀ F' H' es', Ext F (hole H p) F' H' → F' p = none → H' p = some (dO w p es') → RpE K w F' es'.es kvs' → Q .non H'
theorem Ow.keep {K : PySem.W.Frag} {w : World} {F H F' H' : Hp} {c : Addr} {d : D} (x : Ow K w F H (.ref c) d) (sf : Same F F') (sh : ∀ o, H c = some o → H' c = some o) : Ow K w F' H' (.ref c) d := by
  obtain ⟨a, e, ⟨vs, ds, e1, e2, r⟩ | ⟨es, kvs, e1, e2, r⟩⟩ := x
  · cases e; exact ⟨c, rfl, .inl ⟨vs, ds, e1, sh _ e2, r.mono sf⟩⟩
  · cases e; exact ⟨c, rfl, .inr ⟨es, kvs, e1, sh _ e2, r.mono sf⟩⟩
section
variable {K : PySem.W.Frag} {w : World} {hd : Option Value} {B : Bs hd} {F H F' H' : Hp} {σ : L2.St} {env : DEnv}
/-- behind a call that was free to change the slot's dict -/
theorem EnvOk.byref (x : EnvOk K w B F H σ env) {i : Nat} {p : Addr} {t t' : Sl} (hm : t.mut = true) (hm' : t'.mut = true) (q : env[i]? = some (some t)) (hs : σ[i]? = some (some (.ref p))) (e : Ext F (hole H p) F' H') (hp : F' p = none) (h : SlOk K w B F' H' (.ref p) t') :
    EnvOk K w B F' H' σ (env.set i (some t')) := by
  obtain ⟨b, o1, h1, h7, h4, h5⟩ := x.mutObj hm q
  rw [hs] at h1; cases h1
  have hlen : i < env.length := by
    rcases Nat.lt_or_ge i env.length with z | z
    · exact z
    · rw [List.getElem?_eq_none z] at q; cases q
  have sh : ∀ {c : Addr} (o : HO), c ≠ p → H c = some o → H' c = some o := fun {c} o nc z => e.hh c o (by rw [hole_ne nc]; exact z)
  have fr : ∀ {c : Addr} {d : D}, c ≠ p → F c = none → Ow K w F H (.ref c) d → F' c = none := fun {c d} nc g6 g3 => by
    cases z : F' c with
    | none => rfl
    | some o =>
      obtain ⟨b, o', h8, h9⟩ := g3.obj
      cases h8
      rcases e.nw c o z with y | y | y
      · rw [g6] at y; cases y
      · rw [hole_ne nc, h9] at y; cases y
      · have e1 := e.fh _ _ z
        rw [sh o' nc h9] at e1; cases e1
        exact absurd y (g3.notTp h9)
  have ex : Ext B.F B.H F' H' := by
    refine ⟨x.ext.ff.trans e.ff, fun a o z => ?_, e.fh, fun a o z => ?_⟩
    · have na : a ≠ p := by rintro rfl; rw [h4] at z; cases z
      exact sh o na (x.ext.hh a o z)
    · rcases e.nw a o z with y | y | y
      · exact x.ext.nw a o y
      · by_cases na : a = p
        · subst na; rw [hp] at z; cases z
        · rw [hole_ne na] at y
          exact .inr (.inl (x.ext.hh.free y))
      · exact .inr (.inr y)
  refine ⟨ex, by simpa using x.len, fun j s r => ?_, fun j k e e' c hjk m1 m2 g1 g2 g3 g4 => ?_⟩
  · by_cases hj : i = j
    · subst hj
      rw [List.getElem?_set_self hlen] at r
      cases r
      exact ⟨_, hs, h⟩
    · rw [List.getElem?_set_ne hj] at r
      obtain ⟨u, g1, g2⟩ := x.sl j s r
      refine ⟨u, g1, ?_⟩
      cases s with
      | xp => exact g2
      | fz d => exact Rp.mono e.ff g2
      | ow d =>
        obtain ⟨g3, c, g4, g5, g6⟩ := g2
        subst g4
        have nca : c ≠ p := by rintro rfl; exact x.ap i j _ _ c hj hm rfl q r hs g1
        exact ⟨g3.keep e.ff fun o => sh o nca, c, rfl, g5, fr nca g6 g3⟩
      | pn d =>
        obtain ⟨g3, c, g4, g5, g6, g7⟩ := g2
        subst g4
        have nca : c ≠ p := by rintro rfl; exact x.ap i j _ _ c hj hm rfl q r hs g1
        exact ⟨g3.keep e.ff fun o => sh o nca, c, rfl, g5, fr nca g6 g3, g7⟩
  · by_cases n1 : i = j
    · subst n1
      rw [List.getElem?_set_ne hjk] at g2
      exact x.ap i k _ e' c hjk hm m2 q g2 g3 g4
    · rw [List.getElem?_set_ne n1] at g1
      by_cases n2 : i = k
      · subst n2
        exact x.ap j i e _ c hjk m1 hm g1 q g3 g4
      · rw [List.getElem?_set_ne n2] at g2
        exact x.ap j k e e' c hjk m1 m2 g1 g2 g3 g4
end
/-! ### a def with such a parameter, the last one -/
def startM (n : Nat) (ds : List D) (kvs : List (D × D)) : DEnv := (ds.map fun d => some (.fz d)) ++ some (.pn (.dict kvs)) :: List.replicate (n - ds.length - 1) none
def runM (n : Nat) (g : DEnv → Option Out) (ds : List D) (kvs : List (D × D)) : Option (List (D × D)) := match g (startM n ds kvs) with
  | some (.nx e) => match e[ds.length]? with
    | some (some (.pn (.dict kvs'))) => some kvs'
    | _ => none
  | _ => none
theorem startM_ok {hd : Option Value} {K : PySem.W.Frag} {w : World} {F H : Hp} {vs : List V} {ds : List D} {p : Addr} {es : DR} {kvs : List (D × D)} (N : List Str) (s : Same F H) (r : RpA K w F vs ds) (hp : H p = some (dO w p es)) (hf : F p = none) (re : RpE K w F es.es kvs) :
    EnvOk K w (⟨F, hole H p, some p⟩ : Bs hd) F H (L2.start N (vs ++ [.ref p])) (startM N.length ds kvs) := by
  have hl := r.length
  have hsl : ∀ (i : Nat) (t : Sl), (startM N.length ds kvs)[i]? = some (some t) → (∃ d, ds[i]? = some d ∧ t = .fz d) ∨ (i = ds.length ∧ t = .pn (.dict kvs)) := fun i t q => by
    unfold startM at q
    rw [List.getElem?_append] at q
    split at q
    · rw [List.getElem?_map] at q
      cases q2 : ds[i]? with
      | none => rw [q2] at q; cases q
      | some d => rw [q2] at q; cases q; exact .inl ⟨d, rfl, rfl⟩
    · rename_i hi
      rw [List.length_map] at q hi
      cases hk : i - ds.length with
      | zero => rw [hk] at q; cases q; exact .inr ⟨by omega, rfl⟩
      | succ m =>
        rw [hk, List.getElem?_cons_succ, List.getElem?_replicate] at q
        split at q <;> cases q
  refine ⟨⟨.refl _, hole_same, s, fun _ _ e => .inl e⟩, ?_, fun i t q => ?_, fun i j d e a hij m1 m2 q1 q2 _ _ => ?_⟩
  · unfold startM L2.start
    simp [hl]
    omega
  · rcases hsl i t q with ⟨d, h1, rfl⟩ | ⟨rfl, rfl⟩
    · obtain ⟨v, h2, h3⟩ := r.get h1
      refine ⟨v, ?_, h3⟩
      unfold L2.start
      have hi : i < vs.length := (List.getElem?_eq_some_iff.mp h2).1
      rw [List.getElem?_append_left (by simp; omega), List.getElem?_map, List.getElem?_append_left hi, h2]
      rfl
    · refine ⟨.ref p, ?_, ⟨p, rfl, .inr ⟨es, kvs, rfl, hp, re⟩⟩, p, rfl, hole_at, hf, rfl⟩
      unfold L2.start
      rw [List.getElem?_append_left (by simp; omega), List.getElem?_map, List.getElem?_append_right (by omega), hl, Nat.sub_self]
      rfl
  · rcases hsl i _ q1 with ⟨d, _, rfl⟩ | ⟨h1, rfl⟩
    · cases m1
    · rcases hsl j _ q2 with ⟨d, _, rfl⟩ | ⟨h2, rfl⟩
      · cases m2
      · exact hij (h1.trans h2.symm)
section
variable {P : Program} {w : World} {K : PySem.W.Frag} {mg : Str → Option Value} {base : Heap}
theorem fn_okM {x qual : Str} {st : Stmt} {fn : Addr} {fd : FuncData} {N ps : List Str} {k n : Nat} {g : DEnv → Option Out} (Fn : Fun K x qual st fn fd) (S : FnScope N ps (defScope st)) (hn : ps.length = n)
    (hb : ∀ (cdv : Value) (A : Around) (outer : List Env) (s : Shared) (H : Hp) (E : XK), Room k (A.deeper (envOfC qual (defScope st) s.heap.objs.size fn cdv)) →
      DSs (cxOf (L2.CX P w) P w K mg base N qual (defScope st) fn cdv A outer s H E) (fun cls d _ H => E cls d H) (defBody st) g) : FnOk P w K mg base (L2.CX P w) (k + 1) fn fd ps (spM K w n (runM N.length g)) := by
  refine Fn.okX S (fun vs H Q E h => ?_) (fun cdv A outer s H vs Q E hr h => ?_)
  · obtain ⟨_, _, _, _, _, _, _, hl, _⟩ := h
    exact hl.trans hn.symm
  obtain ⟨us, p, es, F, ds, kvs, rfl, hl, sm, hf, hp, re, ra, h⟩ := h
  obtain ⟨t, ht, q⟩ := hb cdv A outer s H E hr
  refine ⟨t, ht, q ⟨F, hole H p, some p⟩ F H (L2.start N (us ++ [V.ref p])) (startM N.length ds kvs) _ (startM_ok N sm ra hp hf re) ?_⟩
  unfold runM at h
  cases hg : g (startM N.length ds kvs) with
  | none => rw [hg] at h; exact h.elim
  | some o =>
    rw [hg] at h
    cases o with
    | nx e =>
      intro F' H' σ' ok
      simp only at h
      split at h
      · exact h.elim
      · rename_i kvs' hk
        split at hk
        · rename_i kv2 q2
          cases hk
          obtain ⟨v, h1, h2, a, rfl, h4, h5, h6⟩ := ok.sl _ _ q2
          cases h6
          obtain ⟨b, e0, ⟨vs, es, e1, e2, r⟩ | ⟨es', kvs, e1, e2, r⟩⟩ := h2
          · cases e1
          · cases e0; cases e1
            exact h F' H' es' ok.ext h5 e2 r
        · cases hk
    | rt o d => exact h.elim
    | bk e => exact h.elim
    | ct e => exact h.elim
    | xc c e => exact h.elim
end
/-! ### the call -/
def dCallM (i : Nat) (G : List D → List (D × D) → Option (List (D × D))) (fe : DEnv → M D) (env : DEnv) : Option Out := match env[i]? with
  | some (some (.ow (.dict kvs))) => eS (fe env) env fun d => match G [d] kvs with
    | some kvs' => some (.nx (env.set i (some (.ow (.dict kvs')))))
    | none => none
  | some (some (.pn (.dict kvs))) => eS (fe env) env fun d => match G [d] kvs with
    | some kvs' => some (.nx (env.set i (some (.pn (.dict kvs')))))
    | none => none
  | _ => none
section
variable {X : Cx} {W : WX} {e : Expr} {k : Nat} {fn : Addr} {fd : FuncData} {ps : List Str} {x y : Str} {pc p2 pos pos' : Pos} {G : List D → List (D × D) → Option (List (D × D))} {fe : DEnv → M D}
theorem ds_callM {i : Nat} (F : FnOk X.prog X.w X.K X.mg X.base (L2.CX X.prog X.w) k fn fd ps (spM X.K X.w 2 G)) (hr : Room k X.A) (hg : Gl X x) (hm : X.mg x = some (.ref fn)) (hk : PySem.W.keepIn X.K (.ref fn) = true) (hb : Binds X.K fd ps []) (tk : Takes X W)
    (ha : DE X W .v e fe) (hi : X.N[i]? = some y := by rfl) (hv : Vis X.env.scope y := by first | exact Or.inl rfl | exact Or.inr (Or.inl rfl) | exact Or.inr (Or.inr rfl))
    (hd : (y == ("__debug__" : Str)) = false := by decide) (hcd : (y == ("__classdict__" : Str)) = false := by decide)
    (hdb : (x == ("__debug__" : Str)) = false := by decide) (he : starEach [e, .Name y p2] X.env = (false, eval e X.env) :: starEach [.Name y p2] X.env := by rfl) (he2 : starEach [.Name y p2] X.env = (false, eval (.Name y p2) X.env) :: starEach [] X.env := by rfl) (hpl : (backTo pos (starEach [.Name y p2] X.env)).any (·.1) = false := by rfl)
    (hs : swapsWith (.Call (.Name x pc) [e, .Name y p2] [] pos) none pos'.line X.env = pure false := by rfl) :
    DS X W (.Expr (.Call (.Name x pc) [e, .Name y p2] [] pos) pos') (dCallM i G fe) := by
  obtain ⟨t, he', q⟩ := ha
  refine ⟨_, ps_expr (pe_callSD F hr hg hm hk hb (dvs := []) .nil (fun σ => passAt tk σ) (pa_cons he' (pa_cons (pe_var hi hv hd hcd) pa_nil he2) he) hdb he hpl) hs, fun B F0 H σ env Dn ok h => ?_⟩
  have main : ∀ (mk : D → Sl) (kvs : List (D × D)), (∀ d, (mk d).mut = true) → (∀ (F2 H2 : Hp) (p : Addr) (es : DR) (kv2 : List (D × D)), σ[i]? = some (some (.ref p)) → F2 p = none → H2 p = some (dO X.w p es) → RpE X.K X.w F2 es.es kv2 → SlOk X.K X.w B F2 H2 (.ref p) (mk (.dict kv2))) → env[i]? = some (some (mk (.dict kvs))) →
      (∃ (p : Addr) (es : DR), σ[i]? = some (some (.ref p)) ∧ H p = some (dO X.w p es) ∧ RpE X.K X.w F0 es.es kvs ∧ F0 p = none) →
      AnsO (eS (fe env) env fun d => match G [d] kvs with
        | some kvs' => some (.nx (env.set i (some (mk (.dict kvs')))))
        | none => none) (OutOk X.K X.w B W Dn) → tDrop (fun σ H Q => tCons t (tCons (tVar i) tNil) σ H fun vs H1 => spM X.K X.w 2 G (vs ++ []) H1 Q (WE W σ)) Dn σ H := fun mk kvs hmk hsl hq ⟨p, es, g1, g2, g3, g4⟩ h => by
    refine q B F0 H σ env _ ok ((AnsO.eS ok h).mono (fun d kk v F1 H1 x1 r => ?_) fun c kk => kk)
    have ok1 := ok.mono x1
    have f1 : F1 p = none := by
      obtain ⟨b, o, z1, z2, z3, z4⟩ := ok1.mutObj (hmk _) hq
      rw [g1] at z1; cases z1
      exact z4
    refine ⟨.ref p, g1, ⟨[v], p, es, F1, [d], kvs, rfl, rfl, x1.fh, f1, x1.hh _ _ g2, g3.mono x1.ff, .cons r .nil, ?_⟩⟩
    cases hG : G [d] kvs with
    | none => rw [hG] at kk; exact kk.elim
    | some kvs' =>
      rw [hG] at kk
      exact fun F2 H2 es2 x2 z1 z2 z3 => kk F2 H2 σ (ok1.byref (hmk _) (hmk _) hq g1 x2 z1 (hsl F2 H2 p es2 kvs' g1 z1 z2 z3))
  unfold dCallM at h
  split at h
  · rename_i kvs hq
    obtain ⟨a, es, g1, g2, g3, g4⟩ := own_dict ok hq
    obtain ⟨_, z1, _, a', z2, z3, _⟩ := ok.sl i _ hq
    rw [g1] at z1; cases z1; cases z2
    exact main .ow kvs (fun _ => rfl) (fun F2 H2 p es kv2 z4 z5 z6 z7 => by rw [g1] at z4; cases z4; exact ⟨⟨_, rfl, .inr ⟨es, kv2, rfl, z6, z7⟩⟩, _, rfl, z3, z5⟩) hq ⟨a, es, g1, g2, g3, g4⟩ h
  · rename_i kvs hq
    obtain ⟨v, z1, z0, a, rfl, z3, z4, z5⟩ := ok.sl i _ hq
    obtain ⟨b, e0, ⟨vs, es, e1, e2, r⟩ | ⟨es, kvs, e1, e2, r⟩⟩ := z0
    · cases e1
    · cases e0; cases e1
      exact main .pn kvs (fun _ => rfl) (fun F2 H2 p es kv2 y4 y5 y6 y7 => by rw [z1] at y4; cases y4; exact ⟨⟨_, rfl, .inr ⟨es, kv2, rfl, y6, y7⟩⟩, _, rfl, z3, y5, z5⟩) hq ⟨a, es, z1, e2, r, z4⟩ h
  · exact h.elim
end
section
variable {X : Cx} {W : WX} {a b : Expr} {fa fb : DEnv → M D} {pos : Pos}
theorem pin_dict {K : PySem.W.Frag} {w : World} {hd : Option Value} {B : Bs hd} {F H : Hp} {σ : L2.St} {env : DEnv} {i : Nat} {kvs : List (D × D)} (ok : EnvOk K w B F H σ env) (q : env[i]? = some (some (.pn (.dict kvs)))) :
    ∃ (a : Addr) (es : DR), σ[i]? = some (some (.ref a)) ∧ H a = some (dO w a es) ∧ RpE K w F es.es kvs ∧ F a = none := by
  obtain ⟨v, h1, h2, a, rfl, h4, h5, h6⟩ := ok.sl i _ q
  obtain ⟨b, e0, ⟨vs, es, e1, e2, r⟩ | ⟨es, kvs, e1, e2, r⟩⟩ := h2
  · cases e1
  · cases e0; cases e1
    exact ⟨a, es, h1, e2, r, h5⟩
theorem pin_sl {K : PySem.W.Frag} {w : World} {hd : Option Value} {B : Bs hd} {F H H' : Hp} {σ : L2.St} {env : DEnv} {i : Nat} {d d' : D} {l : Addr} (ok : EnvOk K w B F H σ env) (q : env[i]? = some (some (.pn d))) (g : σ[i]? = some (some (.ref l))) (h : Ow K w F H' (.ref l) d') : SlOk K w B F H' (.ref l) (.pn d') := by
  obtain ⟨v, h1, h2, a, rfl, h4, h5, h6⟩ := ok.sl i _ q
  rw [g] at h1; cases h1
  exact ⟨h, _, rfl, h4, h5, h6⟩
/-- x[k] = e, x a dict handed in -/
def dPutP (i : Nat) (fk fe : DEnv → M D) (env : DEnv) : Option Out := match env[i]? with
  | some (some (.pn (.dict kvs))) => eS (fe env) env fun d => eS (fk env) env fun k => if keyOk k = true ∧ kvs.length < sizeLine then some (.nx (env.set i (some (.pn (.dict (putD kvs k d)))))) else none
  | _ => none
theorem ds_putP {i : Nat} {x : Str} {p2 tpos : Pos} (hu : X.A.units + 64 < cLine) (hk : DE X W .v b fb) (he : DE X W .v a fa) (hi : X.N[i]? = some x := by rfl) (hv : Vis X.env.scope x := by first | exact Or.inl rfl | exact Or.inr (Or.inl rfl) | exact Or.inr (Or.inr rfl))
    (hd : (x == ("__debug__" : Str)) = false := by decide) (hcd : (x == ("__classdict__" : Str)) = false := by decide)
    (ha : ∀ v, assign (.Subscript (.Name x p2) b tpos) X.env v = (do
      let ov ← holding [v] (eval (.Name x p2) X.env)
      let iv ← holding [v, ov] (eval b X.env)
      standAt tpos
      holding [v, ov, iv] (setItem ov iv v)
      release [v, ov, iv] []) := by intro _; rfl)
    (hs : swapsWithSole [.Subscript (.Name x p2) b tpos] a pos.line X.env = pure false := by rfl) (hw : swappedStores [.Subscript (.Name x p2) b tpos] a X.env = pure none := by rfl)
    (h1 : (assignEach [.Subscript (.Name x p2) b tpos] X.env).map (·.2) = [assign (.Subscript (.Name x p2) b tpos) X.env] := by rfl) :
    DS X W (.Assign [.Subscript (.Name x p2) b tpos] a pos) (dPutP i fb fa) := by
  obtain ⟨ta, he, qa⟩ := he
  obtain ⟨tb, hk, qb⟩ := hk
  refine ⟨_, ps_asg he (pg_sub (pe_var hi hv hd hcd) hk (set_put hu) ha) hs hw h1, fun B F H σ env D ok h => ?_⟩
  unfold dPutP at h
  split at h
  · rename_i kvs q
    obtain ⟨l, es, g1, g2, g3, g4⟩ := pin_dict ok q
    refine qa B F H σ env _ ok ((AnsO.eS ok h).mono (fun d k v F1 H1 x1 r => ?_) fun c k => k)
    refine ⟨.ref l, g1, qb B F1 H1 σ env _ (ok.mono x1) ((AnsO.eS (ok.mono x1) k).mono (fun dk k u F2 H2 x2 r2 => ?_) fun c k => k)⟩
    have r2 : Rp X.K X.w F2 u dk := r2
    split at k
    · rename_i hc
      obtain ⟨ks, rfl, hdp⟩ := keyOk_key hc.1
      have re := (g3.mono x1.ff).mono x2.ff
      refine ⟨l, es, F2, kvs, ks, d, rfl, x2.fh, x2.hh _ _ (x1.hh _ _ g2), re, by rw [RpE.length g3]; exact hc.2, r2, hdp, Rp.mono x2.ff r, fun es' re' => ?_⟩
      exact k F2 _ σ (((ok.mono x1).mono x2).writeM (t' := .pn _) rfl rfl q g1 (pin_sl ((ok.mono x1).mono x2) q g1 ⟨l, rfl, .inr ⟨es', _, rfl, upd_same, re'⟩⟩))
    · exact k.elim
  · exact h.elim
end
end DL

/-! The data layer: zip of lists and tuples, in any mix; the pairs are known objects. -/
namespace DL
open PySem PySem.Spec PyProof.Rows L2
def SqK (c : Bool) (K : PySem.W.Frag) (H : Hp) (a : Addr) (xs : List V) : Prop := match c with
  | true => SqL K H a xs
  | false => SqT K H a xs
def ItK (c : Bool) (h : Heap) (it a : Addr) (i : Nat) : Prop := match c with
  | true => h.IsListIter it a i
  | false => h.IsTupleIter it a i
def AtK (c : Bool) (h : Heap) (a : Addr) (its : Array Value) : Prop := match c with
  | true => h.IsList a its
  | false => h.IsTuple a its
def itO (c : Bool) (a : Addr) : Obj := match c with
  | true => { cls := .type "list_iterator", data := .fields #[.ref a, .int 0 0] }
  | false => { cls := .type "tuple_iterator", data := .fields #[.ref a, .int 0 0] }
section
variable {X : Cx} {pins : List (Addr × Obj)} {s : Shared} {σ : L2.St} {H H' : Hp} {c : Bool} {a it : Addr} {xs ys : List V} {i : Nat} {h h' : Heap} {K : PySem.W.Frag}
theorem SqK.at (I : Inv X pins σ H s) (q : SqK c X.K H a xs) : ∃ its : List Value, Vals xs its ∧ AtK c s.heap a its.toArray ∧ a < s.heap.objs.size := by
  cases c with
  | true =>
    obtain ⟨its, rv, p, _⟩ := I.list q
    exact ⟨its, rv, p.isList, p.lt⟩
  | false =>
    obtain ⟨its, rv, p, _⟩ := I.tuple q
    obtain ⟨o, ho, _⟩ := id p
    exact ⟨its, rv, p, Heap.lt_size ho⟩
theorem SqK.inj (I : Inv X pins σ H s) (q : SqK c X.K H a xs) (q' : SqK c X.K H a ys) : xs = ys := by
  cases c with
  | true => exact I.list_inj q q'
  | false => exact I.tuple_inj q q'
theorem SqK.mono (e : Same H H') (q : SqK c K H a xs) : SqK c K H' a xs := by
  cases c with
  | true => exact e.seq q
  | false => exact sqT_mono e q
theorem ItK.obj (q : ItK c h it a i) : ∃ o, h.get? it = some o ∧ ∀ v, o.data ≠ .cell v := by
  cases c with
  | true => obtain ⟨o, ho, _, d⟩ := q; exact ⟨o, ho, fun v z => by rw [d] at z; cases z⟩
  | false => obtain ⟨o, ho, _, d⟩ := q; exact ⟨o, ho, fun v z => by rw [d] at z; cases z⟩
theorem ItK.at (q : ItK c h it a i) (k : ∀ o, h.get? it = some o → h'.get? it = some o) : ItK c h' it a i := by
  cases c with
  | true => obtain ⟨o, ho, e, d⟩ := q; exact ⟨o, k o ho, e, d⟩
  | false => obtain ⟨o, ho, e, d⟩ := q; exact ⟨o, k o ho, e, d⟩
theorem ItK.new (q : h.get? it = some (itO c a)) : ItK c h it a 0 := by
  cases c with
  | true => exact ⟨_, q, rfl, rfl⟩
  | false => exact ⟨_, q, rfl, rfl⟩
theorem ItK.ne {its : Array Value} (q : ItK c h it a i) (p : AtK c h a its) : a ≠ it := fun e => by
  subst e
  cases c with
  | true =>
    obtain ⟨o, ho, hc, _⟩ := q
    obtain ⟨o2, ho2, hc2, _⟩ := p
    rw [ho] at ho2; cases ho2
    rw [hc] at hc2
    exact absurd hc2 (by decide)
  | false =>
    obtain ⟨o, ho, hc, _⟩ := q
    obtain ⟨o2, ho2, hc2, _⟩ := p
    rw [ho] at ho2; cases ho2
    rw [hc] at hc2
    exact absurd hc2 (by decide)
theorem drawsK {prog : Program} {w : World} {A : Around} (hh : A.handled = none) (it l : Addr) (hne : l ≠ it) (items : Array Value) :
    Draws prog w A it [it, l] items.size (fun i v => items[i]? = some v) (fun i h => ItK c h it l i ∧ AtK c h l items) := by
  cases c with
  | true => exact Draws.list hh it l hne items
  | false => exact Draws.tuple hh it l hne items
theorem beginsK (l : Addr) (items : Array Value) : Begins (.ref l) (itO c l) (fun h => AtK c h l items) := by
  cases c with
  | true => exact begins_list l items
  | false => exact begins_tuple l items
end
def prO (u v : Value) : Obj := { cls := .type "tuple", data := .seq #[u, v] }
def ItzX (K : PySem.W.Frag) (c1 c2 : Bool) (a b : Addr) : It :=
  ⟨fun i H => ∃ (xs ys : List V) (x y : V), SqK c1 K H a xs ∧ SqK c2 K H b ys ∧ xs[i]? = some x ∧ ys[i]? = some y,
    fun i H v H' => ∃ T x y u u2, v = .ref T ∧ H T = none ∧ H' = upd H T (.frz (prO u u2) (.tup [x, y])) ∧ (∀ xs, SqK c1 K H a xs → xs[i]? = some x) ∧ ∀ ys, SqK c2 K H b ys → ys[i]? = some y,
    fun i H => ∃ xs ys : List V, SqK c1 K H a xs ∧ SqK c2 K H b ys ∧ i = min xs.length ys.length⟩
theorem turn_zipX {P : Program} {w : World} {K : PySem.W.Frag} {elts : List Expr} {kk : Nat} {tpos : Pos} {c1 c2 : Bool} {a b z TI TO i1 i2 : Addr} (S : ZipSep2 z TI TO i1 i2 [i1, a] [i2, b]) :
    Turn P w K (.Tuple elts kk tpos) (ItzX K c1 c2 a b) [z, TI, TO, i1, i2] z (fun i h => IsZip h z TI TO .none ∧ IsTupOf2 h TI (.ref i1) (.ref i2) ∧ (∃ x y, IsTupOf2 h TO x y) ∧ ItK c1 h i1 a i ∧ ItK c2 h i2 b i) where
  mem := by simp
  obj := fun i h st c hc => by
    obtain ⟨g1, g2, ⟨x, y, g3⟩, g4, g5⟩ := st
    simp only [List.mem_cons, List.not_mem_nil, or_false] at hc
    rcases hc with rfl | rfl | rfl | rfl | rfl
    · exact ⟨_, g1, fun v q => nomatch q⟩
    · exact ⟨_, g2, fun v q => nomatch q⟩
    · exact ⟨_, g3, fun v q => nomatch q⟩
    · exact g4.obj
    · exact g5.obj
  keep := fun i h h' st k => by
    obtain ⟨g1, g2, ⟨x, y, g3⟩, g4, g5⟩ := st
    exact ⟨k z (by simp) _ g1, k TI (by simp) _ g2, ⟨x, y, k TO (by simp) _ g3⟩, g4.at fun o q => k i1 (by simp) o q, g5.at fun o q => k i2 (by simp) o q⟩
  item := by
    intro X hP hw hK hc i pins s σ H E I hf st hg
    subst hP hw hK
    obtain ⟨g1, g2, ⟨x0, y0, g3⟩, g4, g5⟩ := st
    obtain ⟨xs, ys, x, y, hqx, hqy, hx, hy⟩ := hg
    obtain ⟨its, rv, p, _⟩ := hqx.at I
    obtain ⟨its2, rv2, p2, _⟩ := hqy.at I
    obtain ⟨u, hu, ru⟩ := rv.get hx
    obtain ⟨u2, hu2, ru2⟩ := rv2.get hy
    have hzl : z < s.heap.objs.size := Heap.lt_size g1
    have hh : X.A.in1.handled = none := I.ok.hd hc
    have hli : i < its.toArray.size := by rw [List.size_toArray]; exact (List.getElem?_eq_some_iff.mp hu).1
    have hli2 : i < its2.toArray.size := by rw [List.size_toArray]; exact (List.getElem?_eq_some_iff.mp hu2).1
    refine wpAny_pyNext_zipD2_item S (drawsK (c := c1) hh i1 a (g4.ne p) its.toArray) (drawsK (c := c2) hh i2 b (g5.ne p2) its2.toArray) g1 g2 g3 ⟨g4, p⟩ ⟨g5, p2⟩ hli hli2 fun x1 x2 h' tk y1 y2 b1 b2 d1 d2 b5 b6 hk => ?_
    have e1 : x1 = u := by
      have : its[i]? = some x1 := by simpa using y1
      rw [hu] at this
      exact (Option.some.inj this).symm
    have e2 : x2 = u2 := by
      have : its2[i]? = some x2 := by simpa using y2
      rw [hu2] at this
      exact (Option.some.inj this).symm
    subst e1 e2
    refine ⟨_, rfl, wpAny_letOwnedTupleGo_zip (s := { s with heap := h', toks := tk }) b1 fun h'' z'' sb => ?_⟩
    have hT2 : h''.get? s.heap.objs.size = some (prO x1 x2) := (sb.2 _ (Nat.ne_of_gt hzl)).trans b5
    have new : ObjOk X.prog X.w (upd H s.heap.objs.size (.frz (prO x1 x2) (.tup [x, y]))) h'' s.heap.objs.size (.frz (prO x1 x2) (.tup [x, y])) :=
      ⟨hT2, by show 2 ≤ sizeLine; decide, [x1, x2], .cons ru (.cons ru2 .nil), ⟨_, hT2, rfl, _, rfl⟩⟩
    have I1 := I.turnedNew (h' := h'') (t' := tk) (ch := [z, TI, TO, i1, i2]) (fun c o hb q => (sb.2 c (fun q' => hb (by simp [q']))).trans (hk c o (fun q' => hb (by simp [q'])) (fun q' => hb (by simp [q'])) (fun q' => hb (by simp [q'])) (fun q' => hb (by simp [q'])) q)) hf (Nat.le_refl _) new
    refine ⟨.ref s.heap.objs.size, _, I1, rfl, ⟨_, x, y, x1, x2, rfl, I.hok.fresh (Nat.le_refl _), rfl, fun l hl => by rw [SqK.inj I hl hqx]; exact hx, fun l hl => by rw [SqK.inj I hl hqy]; exact hy⟩, ⟨z'', ?_, ⟨x1, x2, ?_⟩, ?_, ?_⟩, fun c hcm => ?_⟩
    · exact (sb.2 _ S.TIz).trans (hk _ _ S.TIz S.TITO S.TIi1 S.TIi2 g2)
    · exact (sb.2 _ S.TOz).trans b2
    · exact d1.1.at fun o q => (sb.2 _ S.zi1.symm).trans q
    · exact d2.1.at fun o q => (sb.2 _ S.zi2.symm).trans q
    · have hlt : c < s.heap.objs.size := by
        simp only [List.mem_cons, List.not_mem_nil, or_false] at hcm
        rcases hcm with rfl | rfl | rfl | rfl | rfl
        · exact hzl
        · exact Heap.lt_size g2
        · exact Heap.lt_size g3
        · obtain ⟨_, e1, _⟩ := g4.obj; exact Heap.lt_size e1
        · obtain ⟨_, e1, _⟩ := g5.obj; exact Heap.lt_size e1
      rw [upd_ne (Nat.ne_of_lt hlt)]
      exact (hf c hcm).1
  done := by
    intro X hP hw hK hc i pins s σ H E I hf st hg
    subst hP hw hK
    obtain ⟨g1, g2, ⟨x0, y0, g3⟩, g4, g5⟩ := st
    obtain ⟨xs, ys, hqx, hqy, hi⟩ := hg
    obtain ⟨its, rv, p, _⟩ := hqx.at I
    obtain ⟨its2, rv2, p2, _⟩ := hqy.at I
    have l1 := rv.length
    have l2 := rv2.length
    have hh : X.A.in1.handled = none := I.ok.hd hc
    refine wpAny_pyNext_zipD2_end S (drawsK (c := c1) hh i1 a (g4.ne p) its.toArray) (drawsK (c := c2) hh i2 b (g5.ne p2) its2.toArray) g1 g2 g3 ⟨g4, p⟩ ⟨g5, p2⟩ (by rw [List.size_toArray]; omega) (by rw [List.size_toArray]; omega) (by rw [List.size_toArray, List.size_toArray]; omega) fun h' tk hk => ⟨rfl, I.turnedL (t' := tk) (ch := [z, TI, TO, i1, i2]) (fun c o hb q => hk c o (fun q' => hb (by simp [q'])) (fun q' => hb (by simp [q'])) (fun q' => hb (by simp [q'])) (fun q' => hb (by simp [q'])) q) hf⟩
  self := fun A i s Q E st h => wpAny_pyIter_zip st.1 h
section
variable {X : Cx} {W : WX} {a b e e2 : Expr} {p pos tpos : Pos} {elts : List Expr} {kk : Nat}
def iZipX (K : PySem.W.Frag) (ta : TA) : TI := fun σ H R => ta σ H fun vs H1 => ∃ (a b : Addr) (xs ys : List V) (c1 c2 : Bool), vs = [.ref a, .ref b] ∧ SqK c1 K H1 a xs ∧ SqK c2 K H1 b ys ∧ R (ItzX K c1 c2 a b) H1
theorem pi_zipX {ta : TA} (hg : Gl X "zip") (hm : X.mg "zip" = none) (ha : PA X [e, e2] ta)
    (hs : starEach [e, e2] X.env = (false, eval e X.env) :: starEach [e2] X.env := by rfl) (hpl : (backTo pos (starEach [e2] X.env)).any (·.1) = false := by rfl) :
    PI X (.Tuple elts kk tpos) (.Call (.Name "zip" p) [e, e2] [] pos) (iZipX X.K ta) := by
  refine ⟨fun pins s σ H R I h => Call_ (ld_blt I hg hm PyProof.Rows.boot_zip (PyProof.Rows.callWith_type1 (thn (ha.run pos pins s σ H _ I h) fun us s1 ⟨vs, H1, I1, r1, a, b, xs, ys, c1, c2, ex, hqx, hqy, q⟩ => ?_) hs hpl))⟩
  subst ex
  cases r1 with
  | cons ra rr =>
    cases rr with
    | cons rb rr =>
      cases rr
      cases ra
      cases rb
      obtain ⟨its, rv, p1, la⟩ := hqx.at I1
      obtain ⟨its2, rv2, p2, lb⟩ := hqy.at I1
      refine zip_begins2 (beginsK (c := c1) a its.toArray) (beginsK (c := c2) b its2.toArray) p1 p2 fun h' z1 z2 z3 z4 z5 z6 hk => wpAny_pyIter_zip z1 ?_
      have I2 : Inv X pins σ H1 { s1 with heap := h' } := I1.kept (t' := s1.toks) hk
      refine ⟨s1.heap.objs.size + 4, [s1.heap.objs.size + 4, s1.heap.objs.size + 2, s1.heap.objs.size + 3, s1.heap.objs.size, s1.heap.objs.size + 1], _, _, H1, rfl, I2, turn_zipX (zip_sep2 (fp1 := [a]) (fp2 := [b]) (fun b hb => by rw [List.mem_singleton.mp hb]; exact la) (fun b hb => by rw [List.mem_singleton.mp hb]; exact lb)), ⟨z1, z2, ⟨_, _, z3⟩, .new z4, .new z5⟩, fun c hcm => ?_, q⟩
      have hle : s1.heap.objs.size ≤ c := by
        simp only [List.mem_cons, List.not_mem_nil, or_false] at hcm
        rcases hcm with h | h | h | h | h <;> rw [h] <;> first | exact Nat.le_add_right _ _ | exact Nat.le_refl _
      exact I1.fpOk hle (I1.hok.fresh hle)
def seqX : D → Option (List D)
  | .list xs => some xs
  | .tuple xs => some xs
  | _ => none
def zipX : List D → M (List D)
  | [x, y] => match seqX x, seqX y with
    | some xs, some ys => mok (zipL xs ys)
    | _, _ => none
  | _ => none
theorem rp_seq {K : PySem.W.Frag} {w : World} {F : Hp} {v : V} {d : D} {ds : List D} (r : Rp K w F v d) (h : seqX d = some ds) : ∃ (c : Bool) (a : Addr) (xs : List V), v = .ref a ∧ SqK c K F a xs ∧ RpA K w F xs ds := by
  cases r with
  | lst h1 h2 => cases h; exact ⟨true, _, _, rfl, h1, h2⟩
  | tup h1 h2 _ => cases h; exact ⟨false, _, _, rfl, h1, h2⟩
  | _ => cases h
theorem di_zipX {fs : DEnv → M (List D)} (hg : Gl X "zip") (hm : X.mg "zip" = none) (ha : DA X W .v [a, b] fs)
    (hs : starEach [a, b] X.env = (false, eval a X.env) :: starEach [b] X.env := by rfl) (hpl : (backTo pos (starEach [b] X.env)).any (·.1) = false := by rfl) :
    DI X W (.Tuple elts kk tpos) (.Call (.Name "zip" p) [a, b] [] pos) (dItA zipX fs) := by
  obtain ⟨len, t, ha, q⟩ := ha
  refine ⟨_, pi_zipX hg hm ha hs hpl, fun B F H σ env R ok h => q B F H σ env _ ok (h.bind.mono (fun ds k vs F' H' x r => ?_) fun c k => k)⟩
  have r : RpA X.K X.w F' vs ds := r
  unfold zipX at k
  split at k
  · split at k
    · rename_i d1 d2 xs ys hx hy
      cases r with
      | cons r1 r2 =>
        cases r2 with
        | cons r2 r3 =>
          cases r3
          obtain ⟨c1, l1, us, rfl, h1, a1⟩ := rp_seq r1 hx
          obtain ⟨c2, l2, ws, rfl, h2, a2⟩ := rp_seq r2 hy
          refine ⟨l1, l2, us, ws, c1, c2, rfl, h1.mono x.fh, h2.mono x.fh, k _ F' H' x ⟨fun F2 H2 i d s1 s2 hd => ?_, fun F2 H2 s1 s2 => ?_⟩⟩
          · obtain ⟨z1, z2, e1, e2, rfl⟩ := zip_get hd
            obtain ⟨u1, g1, p1⟩ := a1.get e1
            obtain ⟨u2, g2, p2⟩ := a2.get e2
            have q1 := h1.mono (s1.trans s2)
            have q2 := h2.mono (s1.trans s2)
            refine ⟨⟨_, _, u1, u2, q1, q2, g1, g2⟩, fun x1 H3 y => ?_⟩
            obtain ⟨T, w1, w2, o1, o2, rfl, hT, rfl, y1, y2⟩ := y
            have e3 := (y1 _ q1).symm.trans g1
            have e4 := (y2 _ q2).symm.trans g2
            cases e3; cases e4
            have xx := Ext.newF (o := .frz (prO o1 o2) (.tup [u1, u2])) s2 hT
            exact ⟨_, xx, .tup (.inl (.inr ⟨_, upd_same⟩)) (.cons ((p1.mono s1).mono xx.ff) (.cons ((p2.mono s1).mono xx.ff) .nil)) fun _ => Nice.of rfl⟩
          · refine ⟨_, _, h1.mono (s1.trans s2), h2.mono (s1.trans s2), ?_⟩
            rw [zip_len, a1.length, a2.length]
    · exact k.elim
  · exact k.elim
end
end DL

/-! The data layer: sorted(d), d a dict; // by a wide number. -/
namespace DL
open PySem PySem.Spec PyProof.Rows L2
section
variable {prog : Program} {w : World} {A : Around}
theorem walks_raw (hh : A.handled = none) (I d : Addr) (hne : d ≠ I) (es : Array DictEntry) (ep : Nat) :
    Walks prog w A I [I, d] [I] es.size (fun i v => ∃ en, es[i]? = some en ∧ v = en.key) (fun i h => h.IsKeyIter I d i es.size ep ∧ DT.Raw h d es ep) where
  sub := fun b hb => by simp at hb; simp [hb]
  frame := fun _ _ _ st hk => ⟨st.1.at fun o e => hk I (by simp) o e, st.2.at' fun o e => hk d (by simp) o e⟩
  item := fun i s Q E hi st hQ => by
    obtain ⟨h1, o, ho, hx, hd⟩ := st
    refine next_key_item h1 ho hd rfl (en := es[i]) (by simp [hi]) fun h' hit' hs' => ?_
    exact hQ _ h' s.toks ⟨_, by simp [hi], rfl⟩ ⟨hit', o, hs'.extBut _ _ hne ho, hx, hd⟩ fun b o hb e => hs'.extBut b o (fun h => hb (by simp [h])) e
  done := fun s Q E st hQ => by
    obtain ⟨h1, o, ho, hx, hd⟩ := st
    exact next_key_end hh h1 ho hd rfl (Nat.le_refl _) fun h' he' => hQ h' s.toks fun b o hb e => he' b o (fun h => hb (by simp [h])) e
  self := fun _ _ _ _ st hQ => wpAny_pyIter_keyiter st.1 hQ
theorem kdl_raw {d : Addr} {es : Array DictEntry} {ep : Nat} (lo : (d == sysModules) = false) : PySem.W.KdlSrc prog w "dict" d d es.size (fun i v => ∃ en, es[i]? = some en ∧ v = en.key) (fun h => DT.Raw h d es ep) where
  type := fun _ hm => hm.typeIs
  there := fun _ hm => ⟨hm.lt, hm.lt⟩
  keep := fun _ _ hm hk => hm.at' fun o e => hk d (.inl rfl) o e
  notList := by decide
  notTuple := by decide
  hint := fun _ _ _ _ hm hq => PySem.W.kdl_hint_dict hm.typeIs hq
  iter := fun _ _ hh hm => ⟨_, _, (fun _ _ hq => by obtain ⟨o, ho, hx, hd⟩ := hm; exact iter_keys lo ho hx hd hq), walks_raw hh _ d (Nat.ne_of_lt hm.lt) es ep, ⟨⟨_, Heap.get?_push_size _ rfl, rfl, rfl⟩, hm.push _⟩⟩
/-- sorted(d) -/
theorem sorted_keys {E : Value → Shared → Prop} {s : Shared} {β : Type} {d : Addr} {es : Array DictEntry} {ep : Nat} {bs : List β} {enc : β → PyData} {R : Value → β → Prop} {Q : Value → Shared → Prop} (hh : A.handled = none) (lo : (d == sysModules) = false) (hm : DT.Raw s.heap d es ep)
    (e : PySem.W.EachIs R (es.toList.map (·.key)) bs) (er : PySem.W.EachIs (fun v b => ∃ as, Reads s.heap v (enc b) as) (es.toList.map (·.key)) bs) (hs : srtOk (bs.map enc) = true) (h1 : bs.length ≤ 1 → ∀ b ∈ bs, enc b ≠ .none) (hL : bs.length ≤ sizeLine) (hu : A.units + 64 < cLine)
    (h : ∀ (h1 h' : Heap) (tk : Nat) (a : Addr) (out : List Value) (ep : Nat), (∀ b o, s.heap.get? b = some o → h1.get? b = some o) → (∀ b o, h1.get? b = some o → h'.get? b = some o) → h1.objs.size ≤ a → h'.get? a = some (seqObj "list" out.toArray ep) → PySem.W.EachIs R out (bs.mergeSort (PySem.W.dataLe false enc)) → Q (.ref a) { s with heap := h', toks := tk }) :
    wpAny (model prog w) A (call (.builtin "sorted") [.ref d]) Q E s := by
  have hlen : (es.toList.map (·.key)).length ≤ sizeLine := by rw [e.length]; exact hL
  have hes : es.size ≤ sizeLine := by rw [List.length_map, Array.length_toList] at hlen; exact hlen
  refine call_function_entry_kw kind_sorted plain_sorted entry_sorted (args_sorted1 _) ?_
  unfold Builtin.«sorted»
  refine wpAny_bind (m := checkCount "sorted" 1 1 _) (wpAny_pure ?_)
  refine wpAny_bind (PySem.W.kdu_collect (A := A.in1) (kdl_raw (es := es) (ep := ep) lo) hh hm hes fun h1' tk acc hk hacc => ?_)
  have hvs : acc.toList = es.toList.map (·.key) := by
    apply List.ext_getElem?
    intro j
    rw [List.getElem?_map]
    by_cases hj : j < es.size
    · have hja : j < acc.toList.length := by rw [Array.length_toList, hacc.1]; exact hj
      obtain ⟨en, g1, g2⟩ := hacc.2 j acc.toList[j] (by rw [← Array.getElem?_toList]; exact List.getElem?_eq_getElem hja)
      rw [List.getElem?_eq_getElem hja, g2, Array.getElem?_toList, g1]
      rfl
    · rw [List.getElem?_eq_none (by rw [Array.length_toList, hacc.1]; omega), List.getElem?_eq_none (by rw [Array.length_toList]; omega)]
      rfl
  rw [hvs]
  generalize es.toList.map (·.key) = vs at e er hlen
  refine wpAny_bind (wpAny_newList ?_ hlen)
  have hat : (h1'.push (seqObj "list" vs.toArray 0)).get? h1'.objs.size = some (seqObj "list" vs.toArray 0) := Heap.get?_push_size _ rfl
  have hk2 : ∀ b o, s.heap.get? b = some o → (h1'.push (seqObj "list" vs.toArray 0)).get? b = some o := fun b o e => Heap.get?_push_of_some _ (hk b o e)
  have hne : ∀ b o, s.heap.get? b = some o → b ≠ h1'.objs.size := fun b o e => Nat.ne_of_lt (Heap.lt_size (hk b o e))
  refine wpAny_bind (wpAny_holding (wpAny_call_entry_kw slot_list_sort ⟨_, hat, rfl⟩ entry_list_sort ?body (args_list_sort _)))
  case body =>
    have er' : PySem.W.EachIs (fun v b => ∃ as, Reads (PySem.W.sortingHeap (h1'.push (seqObj "list" vs.toArray 0)) h1'.objs.size vs) v (enc b) as) vs bs := er.mono fun _ _ ⟨as, r⟩ => ⟨as, PyProof.Rows.Reads.keeps (fun b o e => PySem.W.sortingHeap_old (hne b o e) (hk2 b o e)) r⟩
    refine wpAny_mono (PySem.W.list_sort_vals (P := fun f s' => f = .done (.ret .none) ∧ Q (.ref h1'.objs.size) s') (s := { s with heap := h1'.push (seqObj "list" vs.toArray 0), toks := tk }) hat
      (SortsAt.ok (s := { s with heap := PySem.W.sortingHeap (h1'.push (seqObj "list" vs.toArray 0)) h1'.objs.size vs, toks := tk }) (PySem.W.each_map (R := fun v d => ∃ as, Reads (PySem.W.sortingHeap (h1'.push (seqObj "list" vs.toArray 0)) h1'.objs.size vs) v d as) enc er') hs ?_ ?_) hlen ⟨rfl, ?_⟩) (fun f s' hf => ?_) fun _ _ e => e
    · show A.units + 1 + 1 + 60 < cLine
      omega
    · intro hl d hd
      rw [List.length_map] at hl
      obtain ⟨b, hb, rfl⟩ := List.mem_map.mp hd
      exact h1 hl b hb
    · obtain ⟨ep, he⟩ := sortedHeap_at (vs := vs) (out := (PySem.W.sortVals (PySem.W.dataKind (PySem.W.sortingHeap (h1'.push (seqObj "list" vs.toArray 0)) h1'.objs.size vs) (bs.map enc)) false vs vs).toArray) hat
      refine h h1' _ tk _ _ ep hk (fun b o e => ?_) (Nat.le_refl _) he (sort_each e er' (srtOk_alike hs))
      rw [sortedHeap_old (Nat.ne_of_lt (Heap.lt_size e)) (Heap.lt_size (Heap.get?_push_of_some _ e))]
      exact Heap.get?_push_of_some _ e
    · obtain ⟨rfl, hq⟩ := hf
      exact ⟨_, rfl, wpAny_pure ⟨_, rfl, hq⟩⟩
end
def sortKD : List D → M D
  | [.dict kvs] => if srtOk (kvs.map (·.1)) = true ∧ (kvs.map (·.1)).all notNone = true then mok (.list (srt (kvs.map (·.1)))) else none
  | _ => none
theorem sortKD_ne (ds : List D) (c : Value) : sortKD ds ≠ some (.error c) := by
  unfold sortKD
  split
  · split <;> intro h <;> cases h
  · intro h; cases h
section
variable {X : Cx}
theorem keys_rp {K : PySem.W.Frag} {w : World} {F : Hp} : ∀ {es : List (NestedKey × V × V)} {kvs : List (D × D)}, RpE K w F es kvs → RpA K w F (es.map (·.2.1)) (kvs.map (·.1))
  | _, _, .nil => .nil
  | _, _, .cons h _ t => .cons h (keys_rp t)
theorem keys_vals {w : World} : ∀ {es : List (NestedKey × V × V)} {l : List DictEntry}, Paired (fun (x : NestedKey × V × V) (e : DictEntry) => e.hash = x.1.hash w ∧ RelV x.2.1 e.key ∧ RelV x.2.2 e.val) es l → Vals (es.map (·.2.1)) (l.map (·.key))
  | _, _, .nil => .nil
  | _, _, .cons h t => .cons h.2.1 (keys_vals t)
theorem call_sortKO (hc : X.calm = true) (hu : X.A.units + 64 < cLine) : CallR X (.builtin "sorted") (rC X .o sortKD) := by
  intro pins s σ H xs us Q I r h
  obtain ⟨F, ds, sm, sx, h⟩ := h
  unfold sortKD at h
  split at h
  · rename_i kvs
    split at h
    · rename_i hk
      obtain ⟨v, rfl, k⟩ := pair1 sx
      obtain ⟨p, es, rfl, hp, re⟩ := k.dict sm
      obtain rfl := Vals.ref1 r
      obtain ⟨⟨hsys, hz, nd, dp, ob, ho, hx, hdat, hpr⟩, _, _⟩ := I.hok p _ hp
      have ra := keys_rp re
      have rv := keys_vals hpr
      have l1 := ra.length
      have l2 : es.es.length ≤ sizeLine := hz
      have e0 := each_of rv ra
      have em : ((es.es.map (·.2.1)).zip (kvs.map (·.1))).map (·.2) = kvs.map (·.1) := zip_snd l1
      have er : PySem.W.EachIs (fun u (b : V × D) => ∃ as, Reads s.heap u b.2 as) (es.en.toList.map (·.key)) ((es.es.map (·.2.1)).zip (kvs.map (·.1))) := each_and e0 fun u b hb hR => by
        have hb2 : b.2 ∈ kvs.map (·.1) := by rw [← em]; exact List.mem_map.mpr ⟨b, hb, rfl⟩
        have := srtOk_eq hk.1 _ hb2
        unfold eqOk at this
        simp only [Bool.and_eq_true] at this
        exact Rp.reads I b.2 b.1 u this.1 (hR.2.mono sm) hR.1
      refine sorted_keys (enc := fun b : V × D => b.2) (I.ok.hd hc) hsys ⟨ob, ho, hx, hdat⟩ e0 er (by rw [em]; exact hk.1) (fun _ b hb => ?_) (by rw [List.length_zip, ← l1, Nat.min_self, List.length_map]; exact l2) hu fun h1 h' tk p2 out ep hk1 hkk hp2 he hR => ?_
      · have hb2 : b.2 ∈ kvs.map (·.1) := by rw [← em]; exact List.mem_map.mpr ⟨b, hb, rfl⟩
        have := List.all_eq_true.mp hk.2 _ hb2
        intro hz
        rw [hz] at this
        cases this
      · obtain ⟨rv2, ra2⟩ := each_to hR
        rw [srt_map, em] at ra2
        have I1 : Inv X pins σ H { s with heap := h1, toks := tk } := I.kept (t' := tk) hk1
        have hp0 := I1.hok.fresh hp2
        have hl : ((((es.es.map (·.2.1)).zip (kvs.map (·.1))).mergeSort (PySem.W.dataLe false fun b => b.2)).map (·.1)).length ≤ sizeLine := by
          rw [List.length_map, List.length_mergeSort, List.length_zip, ← l1, Nat.min_self, List.length_map]
          exact l2
        have I2 := I1.laid (h' := h') (t' := tk) (o := .lst ((((es.es.map (·.2.1)).zip (kvs.map (·.1))).mergeSort (PySem.W.dataLe false fun b => b.2)).map (·.1))) hkk hp2 ⟨hl, out, ep, rv2, he⟩
        refine ⟨.ref p2, _, I2, rfl, h _ F _ (Ext.newO sm hp0) ?_⟩
        exact ⟨⟨p2, rfl, .inl ⟨_, _, rfl, upd_same, ra2⟩⟩, p2, rfl, hp0, sm.free hp0⟩
    · exact h.elim
  · exact h.elim
/-! ### // by a wide number -/
def divW : D → D → M D := int2 (fun _ j => decide (0 < j) && decide (j.natAbs.log2 < 9000)) fun i j => .int (i / j)
theorem op_divWV : OpR X (binaryOp .FloorDiv) (rD X .v divW) := op_int2 (fun _ _ _ => .int _) (fun i j h => by
  simp only [Bool.and_eq_true, decide_eq_true_eq] at h
  exact h) op_fdivW
end
end DL

/-! The data layer: texts within texts, a loop over a text, int(text), a text so many times, range with a step. -/
namespace DL
open PySem PySem.Spec PyProof.Rows L2
section
variable {X : Cx} {W : WX} {a b c e : Expr} {p pos : Pos}
def inSD : D → D → M D
  | .str i, .str j => mok (.bool (!(Builtin.Str.occurrences j i 0 j.length 1).isEmpty))
  | _, _ => none
theorem inSD_ne (x y : D) (c : Value) : inSD x y ≠ some (.error c) := by
  unfold inSD
  split <;> intro h <;> cases h
theorem op_inSV : OpR X (compareOp .In) (rD X .v inSD) := by
  intro pins s σ H x y v u Q I rx ry h
  obtain ⟨F, d, e, sm, sx, sy, h⟩ := h
  unfold inSD at h
  split at h
  · obtain rfl := sx.str
    obtain rfl := sy.str
    exact op_in_str pins s σ H _ _ v u Q I rx ry ⟨_, _, rfl, rfl, h (.bl _) F H (.refl sm) (.bl _)⟩
  · exact h.elim
/-! ### for c in text -/
def charsD (x : Str) : List D := x.cps.toList.map fun c => .str ⟨#[c]⟩
def asStr : D → M (List D)
  | .str x => mok (charsD x)
  | _ => none
theorem di_str {tg : Expr} {f : DEnv → M D} (he : DE X W .v e f) : DI X W tg e (dIt asStr f) := by
  obtain ⟨t, he, q⟩ := he
  refine ⟨_, pi_str he, fun B F H σ env R ok h => q B F H σ env _ ok (h.bind.mono (fun d k v F' H' x r => ?_) fun c k => k)⟩
  have r : Rp X.K X.w F' v d := r
  unfold asStr at k
  split at k
  · cases r
    rename_i z
    refine ⟨z, rfl, k _ F' H' x ⟨fun F2 H2 i d1 s1 s2 hd => ?_, fun F2 H2 s1 s2 => ?_⟩⟩
    · unfold charsD at hd
      rw [List.getElem?_map] at hd
      obtain ⟨c, hc, rfl⟩ := Option.map_eq_some_iff.mp hd
      have hc' : z.cps[i]? = some c := by rw [← Array.getElem?_toList]; exact hc
      refine ⟨(Array.getElem?_eq_some_iff.mp hc').1, fun x1 H3 y => ?_⟩
      obtain ⟨rfl, c', h1, rfl⟩ := y
      rw [hc'] at h1
      cases h1
      exact ⟨F2, .refl s2, .str _⟩
    · show z.cps.size ≤ _
      unfold charsD
      rw [List.length_map, Array.length_toList]
      exact Nat.le_refl _
  · exact k.elim
/-! ### int(text) -/
def intSD : List D → M D
  | [.str x] => match PySem.intText? x with
    | some n => if x.length ≤ 640 then mok (.int n) else none
    | none => none
  | _ => none
theorem intSD_ne (ds : List D) (c : Value) : intSD ds ≠ some (.error c) := by
  unfold intSD
  split
  · split
    · split <;> intro h <;> cases h
    · intro h; cases h
  · intro h; cases h
theorem call_intSV : CallR X (.type "int") (rC X .v intSD) := by
  intro pins s σ H xs us Q I r h
  obtain ⟨F, ds, sm, sx, h⟩ := h
  unfold intSD at h
  split at h
  · split at h
    · rename_i x n hn
      split at h
      · rename_i hl
        obtain ⟨v, rfl, k⟩ := pair1 sx
        obtain rfl := k.str
        exact call_int_str pins s σ H _ us Q I r ⟨_, n, rfl, hn, hl, h (.int n) F H (.refl sm) (.int n)⟩
      · exact h.elim
    · exact h.elim
  · exact h.elim
/-! ### text * number -/
def repS (x : Str) (n : Int) : Str := if n < 1 then Str.empty else if (n == 1 || x.length == 0) = true then x else ⟨(List.replicate n.toNat x.cps).foldl (· ++ ·) #[]⟩
def mulSD : D → D → M D
  | .str x, .int n => if n.natAbs ≤ 1000 ∧ x.length ≤ 1000 then mok (.str (repS x n)) else none
  | _, _ => none
theorem mulSD_ne (x y : D) (c : Value) : mulSD x y ≠ some (.error c) := by
  unfold mulSD
  split
  · split <;> intro h <;> cases h
  · intro h; cases h
theorem rep_size (x : Array Nat) : ∀ (m : Nat) (acc : Array Nat), (List.foldl (· ++ ·) acc (List.replicate m x)).size = acc.size + m * x.size
  | 0, acc => by simp
  | m + 1, acc => by
    rw [List.replicate_succ, List.foldl_cons, rep_size x m, Array.size_append, Nat.add_mul, Nat.one_mul]
    omega
theorem op_mulSV : OpR X (binaryOp .Mult) (rD X .v mulSD) := by
  intro pins s σ H x y v u Q I rx ry h
  obtain ⟨F, d, e, sm, sx, sy, h⟩ := h
  unfold mulSD at h
  split at h
  · rename_i z n
    split at h
    · rename_i hb
      obtain rfl := sx.str
      obtain rfl := sy.int
      obtain ⟨t, rfl⟩ := rx
      obtain ⟨t', rfl⟩ := ry
      have hq := h (.str (repS z n)) F H (.refl sm) (.str _)
      have hm : z.length * n.toNat ≤ 1000 * 1000 := Nat.mul_le_mul hb.2 (by omega)
      have fin : ∀ (u : Tok) (tk : Nat), EP X pins σ Q (.str (repS z n) u) { s with toks := tk } := fun u tk => ⟨.str (repS z n), H, I.tok _, ⟨u, rfl⟩, hq⟩
      refine PySem.P.mul_str (by simp only [Bool.or_eq_false_iff, decide_eq_false_iff_not]; omega) (fun h1 _ => ?_) (fun h1 _ => ?_) ?_
      · have h2 : 0 < n := by omega
        have h3 : n ≤ 1000 := by omega
        have h4 : (1000 : Int) ≤ (2 ^ 63 - 1) / n := by
          rw [Int.le_ediv_iff_mul_le h2]
          omega
        have h5 : (z.length : Int) ≤ 1000 := by have := hb.2; omega
        omega
      · show decide (z.length * n.toNat > sizeLine) = false
        rw [sizeLine_eq]
        exact decide_eq_false (by omega)
      · unfold repS at fin
        by_cases h1 : n < 1
        · rw [if_pos h1]
          rw [if_pos h1] at fin
          exact ⟨by decide, fin _ _⟩
        · rw [if_neg h1]
          rw [if_neg h1] at fin
          by_cases h2 : (n == 1 || z.length == 0) = true
          · rw [if_pos h2]
            rw [if_pos h2] at fin
            exact fin t s.toks
          · rw [if_neg h2]
            rw [if_neg h2] at fin
            refine ⟨?_, fin _ _⟩
            show (List.foldl (· ++ ·) #[] (List.replicate n.toNat z.cps)).size ≤ sizeLine
            rw [rep_size]
            simp only [Array.size_empty, Nat.zero_add]
            have : z.cps.size = z.length := rfl
            rw [sizeLine_eq, this, Nat.mul_comm]
            omega
    · exact h.elim
  · exact h.elim
/-! ### range(i, j, c) -/
def rngC (i j c : Int) : List D := (List.range (Builtin.Range.rangeSize i j c).toNat).map fun k => .int (i + (k : Nat) * c)
def rng3D : List D → M (List D)
  | [.int i, .int j, .int c] => if (0 < c ∧ c < 1000 ∧ i.natAbs < 1000000 ∧ j.natAbs < 1000000) ∧ Builtin.Range.small i j c = true then mok (rngC i j c) else none
  | _ => none
theorem rangeSize_nn (i j c : Int) (h : 0 < c) : 0 ≤ Builtin.Range.rangeSize i j c := by
  unfold Builtin.Range.rangeSize
  rw [if_pos h]
  split
  · have : 0 ≤ (j - i - 1) / c := Int.ediv_nonneg (by omega) (by omega)
    omega
  · omega
theorem di_range3 {tg : Expr} {fs : DEnv → M (List D)} (hg : Gl X "range") (hm : X.mg "range" = none) (ha : DA X W .v [a, b, c] fs)
    (hs : starEach [a, b, c] X.env = (false, eval a X.env) :: starEach [b, c] X.env := by rfl) (hpl : (backTo pos (starEach [b, c] X.env)).any (·.1) = false := by rfl) :
    DI X W tg (.Call (.Name "range" p) [a, b, c] [] pos) (dItA rng3D fs) := by
  obtain ⟨len, t, ha, q⟩ := ha
  refine ⟨_, pi_range3 hg hm ha hs hpl, fun B F H σ env R ok h => q B F H σ env _ ok (h.bind.mono (fun ds k vs F' H' x r => ?_) fun c k => k)⟩
  have r : RpA X.K X.w F' vs ds := r
  unfold rng3D at k
  split at k
  · rename_i i j d _
    split at k
    · rename_i hb
      obtain ⟨hb, hsm⟩ := hb
      cases r with
      | cons r1 r2 =>
        cases r2 with
        | cons r2 r3 =>
          cases r3 with
          | cons r3 r4 =>
            cases r1; cases r2; cases r3; cases r4
            have hn := rangeSize_nn i j d hb.1
            refine ⟨i, j, d, (Builtin.Range.rangeSize i j d).toNat, rfl, ⟨by omega, by omega, hsm, by omega⟩, k _ F' H' x ⟨fun F2 H2 n d1 s1 s2 hd => ?_, fun F2 H2 s1 s2 => ?_⟩⟩
            · unfold rngC at hd
              rw [List.getElem?_map] at hd
              obtain ⟨n', h1, rfl⟩ := Option.map_eq_some_iff.mp hd
              obtain ⟨h2, h3⟩ := List.getElem?_eq_some_iff.mp h1
              rw [List.getElem_range] at h3
              subst h3
              refine ⟨show n < _ by rw [List.length_range] at h2; exact h2, fun x1 H3 y => ?_⟩
              obtain ⟨rfl, rfl⟩ := y
              exact ⟨F2, .refl s2, .int _⟩
            · show _ ≤ _
              unfold rngC
              rw [List.length_map, List.length_range]
              exact Nat.le_refl _
    · exact k.elim
  · exact k.elim
/-! ### a, b, c = a list -/
def gL (n : Nat) (g : List D → DEnv → Option DEnv) (d : D) (env : DEnv) : Option DEnv := match d with
  | .list ds => if ds.length = n then g ds env else none
  | _ => none
theorem dg_lst {ts : List Expr} {sl : List Nat} {k n : Nat} {q : List D → DEnv → Option DEnv} (hc : X.calm = true) (h : DGs X ts sl q) (hn : (assignEach ts X.env).length = n := by rfl) (hst : (assignEach ts X.env).findIdx? (·.1) = none := by rfl) : DG X (.Tuple ts k pos) sl (gL n q) := by
  obtain ⟨t, h, qq⟩ := h
  refine ⟨_, pg_lst hc h hn hst, fun B F H σ env env' v d Q ok r e k => ?_⟩
  unfold gL at e
  split at e
  · split at e
    · rename_i hl
      cases r with
      | lst hs ra =>
        exact ⟨_, _, rfl, ok.fh.seq hs, by rw [ra.length]; exact hl, qq B F H σ env env' _ _ Q ok ra e k⟩
    · cases e
  · cases e
end
end DL

/-! The data layer: isinstance(x, T) where x may be a dict. -/
namespace DL
open PySem PySem.Spec PyProof.Rows L2
section
variable {X : Cx} {W : WX} {a : Expr} {fa : DEnv → M D} {pos : Pos}
def isiXB (T : String) (d : D) : Option Bool := match d with
  | .dict _ => kitB "dict" T
  | d => isiB T d
def isiX (T : String) (d : D) : M D := match isiXB T d with
  | some b => mok (.bool b)
  | none => none
def rIsiX (X : Cx) : List V → Hp → VK → Prop := fun xs H Q => ∃ (x : V) (t : String) (b : Bool), xs = [x, .ty t] ∧ Q (.bl b) H ∧
  ((∃ T, TyX X.K H x (.type T) ∧ kitB T t = some b) ∨ ∃ (p : Addr) (es : DR), x = .ref p ∧ H p = some (dO X.w p es) ∧ kitB "dict" t = some b)
theorem call_isiX : CallR X (.builtin "isinstance") (rIsiX X) := by
  intro pins s σ H xs us Q I r h
  obtain ⟨x, t, b, rfl, q, h⟩ := h
  rcases h with ⟨T, ty, e⟩ | ⟨p, es, rfl, hp, e⟩
  · exact call_isi pins s σ H _ us Q I r ⟨x, .ty t, .type T, .type t, b, rfl, .ty t, ty, kit_ty e, q⟩
  · obtain ⟨u1, u2, rfl, r1, r2⟩ := vals2 r
    have e2 : u2 = Value.type t := (ClsV.ty t).eq r2
    subst e2
    cases (show u1 = Value.ref p from r1)
    obtain ⟨⟨ob, ho, hx⟩, _⟩ := dict_ty I hp
    exact PySem.W.kia_one (K := X.K) PySem.W.kitx_dict I.kIn ⟨ob, ho, hx⟩ (kit_ty e) (fun z => nomatch z) fun tk => ⟨.bl b, H, I.tok tk, rfl, q⟩
theorem de_isiX {T x : Str} {t : String} {p p2 : Pos} (hg : Gl X "isinstance") (hm : X.mg "isinstance" = none) (hgT : Gl X x) (hmT : X.mg x = none) (hvT : bootBuiltins x = some (.type t)) (ha : DE X W .s a fa)
    (hn : x ≠ "__name__" := by decide) (hdb : (x == ("__debug__" : Str)) = false := by decide) (hs : starEach [a, .Name x p2] X.env = (false, eval a X.env) :: starEach [.Name x p2] X.env := by rfl)
    (hs2 : starEach [.Name x p2] X.env = (false, eval (.Name x p2) X.env) :: starEach [] X.env := by rfl) (hpl : (backTo pos (starEach [.Name x p2] X.env)).any (·.1) = false := by rfl) :
    DE X W .v (.Call (.Name "isinstance" p) [a, .Name x p2] [] pos) (d1 (isiX t) fa) := by
  obtain ⟨ta, ha, qa⟩ := ha
  refine ⟨_, pe_callB call_isiX hg hm (by decide +kernel) (pa_cons ha (pa_cons (pe_bltn (v := .ty t) hgT hmT hvT rfl hn hdb) pa_nil hs2) hs) (by decide) (by decide) hs hpl, fun B F H σ env Q ok h => ?_⟩
  refine qa B F H σ env _ ok (h.bind.mono (fun d k v F' H' x r => ?_) fun c k => k)
  unfold isiX at k
  split at k
  · rename_i b hb
    refine ⟨v, t, b, rfl, k _ F' H' x (.bl b), ?_⟩
    unfold isiXB at hb
    split at hb
    · obtain ⟨p, es, e, hp, _⟩ := Sh.dict r x.fh
      exact .inr ⟨p, es, e, hp, hb⟩
    · obtain ⟨T', h1, h2⟩ := isiB_ty hb
      exact .inl ⟨T', ty_rel r x.fh h1, h2⟩
  · exact k.elim
end
end DL

/-! The data layer: reckoning. -/
namespace DL
open PySem PySem.Spec PyProof.Rows L2

section
variable {i j : Int} {x y : D}
theorem addD_int : addD (.int i) (.int j) = mok (.int (i + j)) := rfl
theorem iaddD_int : iaddD (.int i) (.int j) = mok (.int (i + j)) := rfl
theorem subD_int : subD (.int i) (.int j) = mok (.int (i - j)) := rfl
theorem ltD_int : ltD (.int i) (.int j) = mok (.bool (decide (i < j))) := rfl
theorem leD_int : leD (.int i) (.int j) = mok (.bool (decide (i ≤ j))) := rfl
theorem gtD_int : gtD (.int i) (.int j) = mok (.bool (decide (j < i))) := rfl
theorem geD_int : geD (.int i) (.int j) = mok (.bool (decide (j ≤ i))) := rfl
theorem modD_int (h : 0 < j) : modD (.int i) (.int j) = mok (.int (i % j)) := by simp [modD, int2, h]
theorem divD_int (h : 0 < j) (h2 : j < 1073741824) : divD (.int i) (.int j) = mok (.int (i / j)) := by
  have h3 : j.natAbs < 1073741824 := by omega
  simp [divD, int2, h, h3]
theorem mulD_l (h1 : -18446744073709551616 < i) (h2 : i < 18446744073709551616) : mulD (.int i) (.int j) = mok (.int (i * j)) := by
  unfold mulD int2
  simp only
  rw [if_pos (by simp only [Bool.or_eq_true, decide_eq_true_eq]; omega)]
theorem mulD_r (h1 : -18446744073709551616 < j) (h2 : j < 18446744073709551616) : mulD (.int i) (.int j) = mok (.int (i * j)) := by
  unfold mulD int2
  simp only
  rw [if_pos (by simp only [Bool.or_eq_true, decide_eq_true_eq]; omega)]
theorem powD_int (h1 : 0 ≤ j) (h2 : j ≤ 1000000) (h3 : i.natAbs < 18446744073709551616) : powD (.int i) (.int j) = mok (.int (i ^ j.toNat)) := by
  unfold powD int2
  simp only
  rw [if_pos (by simp only [Bool.and_eq_true, decide_eq_true_eq]; omega)]
theorem eqD_int : eqD (.int i) (.int j) = mok (.bool (decide (i = j))) := by
  unfold eqD
  rw [if_pos ⟨rfl, rfl⟩]
  simp only [PyData.eqv, Bool.beq_eq_decide_eq]
theorem neD_int : neD (.int i) (.int j) = mok (.bool (!decide (i = j))) := by
  unfold neD
  rw [if_pos ⟨rfl, rfl⟩]
  simp only [PyData.eqv, Bool.beq_eq_decide_eq]
theorem eqD_bool {p q : Bool} : eqD (.bool p) (.bool q) = mok (.bool (p == q)) := rfl
theorem eqD_str {p q : Str} : eqD (.str p) (.str q) = mok (.bool (p == q)) := rfl
theorem neD_str {p q : Str} : neD (.str p) (.str q) = mok (.bool (!(p == q))) := rfl
theorem asB_bool {b : Bool} : asB (.bool b) = mok b := rfl
theorem asI_int {i : Int} : asI (.int i) = mok (some i) := rfl
theorem lenD_list {xs : List D} : lenD [.list xs] = mok (.int xs.length) := rfl
theorem lenD_tuple {xs : List D} : lenD [.tuple xs] = mok (.int xs.length) := rfl
theorem tupleD_list {xs : List D} : tupleD [.list xs] = mok (.tuple xs) := rfl
theorem tupleD_tuple {xs : List D} : tupleD [.tuple xs] = mok (.tuple xs) := rfl
theorem listD_list {xs : List D} : listD [.list xs] = mok (.list xs) := rfl
theorem listD_tuple {xs : List D} : listD [.tuple xs] = mok (.list xs) := rfl
theorem isD_none {d : D} : isD d .none = mok (.bool (isNone d)) := rfl
theorem isNotD_none {d : D} : isNotD d .none = mok (.bool (!isNone d)) := rfl
theorem atI_nat' {α : Type} {xs : List α} {k : Int} {d : α} (h0 : 0 ≤ k) (h : xs[k.toNat]? = some d) : atI xs k = some d := by
  have e : k = (k.toNat : Int) := by omega
  rw [e]
  exact atI_nat h
theorem getD'_list {xs : List D} {d : D} (h : atI xs i = some d) : getD' (.list xs) (.int i) = mok d := by simp [getD', h]
theorem getD'_tuple {xs : List D} {d : D} (h : atI xs i = some d) : getD' (.tuple xs) (.int i) = mok d := by simp [getD', h]
/-- an item of a list made by f -/
theorem getD'_listF {α : Type} {f : α → D} {xs : List α} (z : α) (h0 : 0 ≤ i) (h : i < xs.length) : getD' (.list (xs.map f)) (.int i) = mok (f (xs.getD i.toNat z)) := by
  refine getD'_list (atI_nat' h0 ?_)
  have hi : i.toNat < xs.length := by omega
  rw [List.getElem?_map, List.getElem?_eq_getElem hi, List.getD_eq_getElem?_getD, List.getElem?_eq_getElem hi]
  rfl
theorem getD'_tupleF {α : Type} {f : α → D} {xs : List α} (z : α) (h0 : 0 ≤ i) (h : i < xs.length) : getD' (.tuple (xs.map f)) (.int i) = mok (f (xs.getD i.toNat z)) := by
  refine getD'_tuple (atI_nat' h0 ?_)
  have hi : i.toNat < xs.length := by omega
  rw [List.getElem?_map, List.getElem?_eq_getElem hi, List.getD_eq_getElem?_getD, List.getElem?_eq_getElem hi]
  rfl
theorem getD'_ints {ns : List Int} (h0 : 0 ≤ i) (h : i < ns.length) : getD' (.list (ns.map .int)) (.int i) = mok (.int (ns.getD i.toNat 0)) := getD'_listF 0 h0 h
theorem getD'_intsT {ns : List Int} (h0 : 0 ≤ i) (h : i < ns.length) : getD' (.tuple (ns.map .int)) (.int i) = mok (.int (ns.getD i.toNat 0)) := getD'_tupleF 0 h0 h
end
section
variable {g h : DEnv → Option Out} {env e : DEnv} {r : Option Out} {o : Bool} {d : D} {n : Nat} {ds : List D}
theorem dSeq_nx (h1 : g env = some (.nx e)) (h2 : h e = r) : dSeq g h env = r := by
  unfold dSeq
  rw [h1]
  exact h2
theorem dSeq_rt (h1 : g env = some (.rt o d)) : dSeq g h env = some (.rt o d) := by
  unfold dSeq
  rw [h1]
theorem dSeq_xc {c : Value} (h1 : g env = some (.xc c e)) : dSeq g h env = some (.xc c e) := by
  unfold dSeq
  rw [h1]
theorem run_rt (h1 : g (startD n ds) = some (.rt o d)) : runD n g ds = some (.ret o d) := by
  unfold runD
  rw [h1]
  rfl
theorem run_xc {c : Value} (h1 : g (startD n ds) = some (.xc c e)) : runD n g ds = some (.exc c) := by
  unfold runD
  rw [h1]
  rfl
theorem dIfS_t {p : DEnv → M Bool} (h1 : p env = mok true) (h2 : g env = r) : dIfS p g h env = r := by
  unfold dIfS
  rw [h1]
  exact h2
theorem dIfS_f {p : DEnv → M Bool} (h1 : p env = mok false) (h2 : h env = r) : dIfS p g h env = r := by
  unfold dIfS
  rw [h1]
  exact h2
theorem dFor_of {p : D → DEnv → Option DEnv} {s : DEnv → M (List D)} (h1 : s env = mok ds) (h2 : forD p g ds env = r) : dFor p s g env = r := by
  unfold dFor
  rw [h1]
  exact h2
/-- a loop that goes through: J of the items gone through -/
theorem forD_inv {p : D → DEnv → Option DEnv} (J : Nat → DEnv → Prop) (h0 : J 0 env) (hs : ∀ i d e, ds[i]? = some d → J i e → ∃ e1 e2, p d e = some e1 ∧ (g e1 = some (.nx e2) ∨ g e1 = some (.ct e2)) ∧ J (i + 1) e2) :
    ∃ e, forD p g ds env = some (.nx e) ∧ J ds.length e := by
  have key : ∀ (l : List D) (k : Nat) (e : DEnv), k + l.length = ds.length → ds.drop k = l → J k e → ∃ e', forD p g l e = some (.nx e') ∧ J ds.length e' := by
    intro l
    induction l with
    | nil =>
      intro k e hk _ hj
      have : k = ds.length := by simpa using hk
      subst this
      exact ⟨e, rfl, hj⟩
    | cons d l ih =>
      intro k e hk hd hj
      have hkd : ds[k]? = some d := by
        have := congrArg (fun z => z[0]?) hd
        simpa using this
      obtain ⟨e1, e2, h1, h2, h3⟩ := hs k d e hkd hj
      have hd2 : ds.drop (k + 1) = l := by
        rw [← List.tail_drop, hd]
        rfl
      obtain ⟨e', h4, h5⟩ := ih (k + 1) e2 (by simp at hk; omega) hd2 h3
      refine ⟨e', ?_, h5⟩
      unfold forD
      rw [h1]
      rcases h2 with h2 | h2
      · simp only [h2]; exact h4
      · simp only [h2]; exact h4
  exact key ds 0 env (by simp) rfl h0
/-- a comprehension, item by item -/
theorem lcD_map {p : D → DEnv → Option DEnv} {t : DEnv → M Bool} {f : DEnv → M D} {α : Type} {ei : α → D} {F : α → D} {xs : List α} (h : ∀ x ∈ xs, ∃ e1, p (ei x) env = some e1 ∧ t e1 = mok true ∧ f e1 = mok (F x)) :
    lcD p t f env (xs.map ei) = some (xs.map F) := by
  induction xs with
  | nil => rfl
  | cons x xs ih =>
    obtain ⟨e1, h1, h2, h3⟩ := h x List.mem_cons_self
    have ih := ih fun y hy => h y (List.mem_cons_of_mem _ hy)
    rw [List.map_cons, List.map_cons]
    unfold lcD
    rw [h1]
    simp only [h2, h3, mok, ih, Option.map_some]
theorem lcD_filter {p : D → DEnv → Option DEnv} {t : DEnv → M Bool} {f : DEnv → M D} {α : Type} {ei : α → D} {F : α → D} {c : α → Bool} {xs : List α} (h : ∀ x ∈ xs, ∃ e1, p (ei x) env = some e1 ∧ t e1 = mok (c x) ∧ (c x = true → f e1 = mok (F x))) :
    lcD p t f env (xs.map ei) = some ((xs.filter c).map F) := by
  induction xs with
  | nil => rfl
  | cons x xs ih =>
    obtain ⟨e1, h1, h2, h3⟩ := h x List.mem_cons_self
    have ih := ih fun y hy => h y (List.mem_cons_of_mem _ hy)
    rw [List.map_cons]
    unfold lcD
    rw [h1]
    cases hc : c x with
    | false =>
      rw [hc] at h2
      simp only [h2, mok, ih]
      simp [hc]
    | true =>
      rw [hc] at h2
      simp only [h2, h3 hc, mok, ih, Option.map_some]
      simp [hc]
theorem dLc_ok {vs : List Nat} {p : D → DEnv → Option DEnv} {s : DEnv → M (List D)} {t : DEnv → M Bool} {f : DEnv → M D} {out : List D} (h1 : s env = mok ds) (h2 : ds.length ≤ sizeLine) (h3 : lcD p t f (wipeD env vs) ds = some out) : dLc vs p s t f env = mok (.list out) := by
  unfold dLc
  rw [h1]
  rw [mbind_mok, if_pos h2, h3]
end
theorem sizeLine_ge {n : Nat} (h : n ≤ 16777216) : n ≤ sizeLine := h
end DL
namespace DL
theorem okT {p : Prop} [Decidable p] (h : p) : mok (decide p) = mok true := by rw [decide_eq_true h]
theorem okF {p : Prop} [Decidable p] (h : ¬ p) : mok (decide p) = mok false := by rw [decide_eq_false h]
end DL

namespace DL
open PySem PySem.Spec PyProof.Rows L2
/-- a loop that leaves at the first item of which c is false -/
theorem forD_find {α : Type} {ei : α → D} {p : D → DEnv → Option DEnv} {g : DEnv → Option Out} {o : Bool} {d : D} (J : DEnv → Prop) (c : α → Bool) : ∀ {xs : List α} {env : DEnv}, J env →
    (∀ x e, x ∈ xs → J e → ∃ e1, p (ei x) e = some e1 ∧ ((c x = true ∧ ∃ e2, g e1 = some (.nx e2) ∧ J e2) ∨ (c x = false ∧ g e1 = some (.rt o d)))) →
    (xs.all c = true ∧ ∃ e, forD p g (xs.map ei) env = some (.nx e) ∧ J e) ∨ (xs.all c = false ∧ forD p g (xs.map ei) env = some (.rt o d))
  | [], env, h0, _ => .inl ⟨rfl, env, rfl, h0⟩
  | x :: xs, env, h0, hs => by
    obtain ⟨e1, h1, h2⟩ := hs x env List.mem_cons_self h0
    rw [List.map_cons, List.all_cons]
    rcases h2 with ⟨hc, e2, h2, h3⟩ | ⟨hc, h2⟩
    · have ih := forD_find (xs := xs) (env := e2) J c h3 fun y e hy hj => hs y e (List.mem_cons_of_mem _ hy) hj
      rw [hc, Bool.true_and]
      unfold forD
      simp only [h1, h2]
      exact ih
    · rw [hc, Bool.false_and]
      right
      refine ⟨rfl, ?_⟩
      unfold forD
      simp only [h1, h2]
theorem rngL_map (n : Nat) : rngL 0 (n : Int) = (List.range n).map fun (i : Nat) => PyData.int (i : Int) := by
  unfold rngL
  simp
theorem rngD_one {j : Int} (h : j.natAbs < 4611686018427387904) : rngD [.int j] = mok (rngL 0 j) := by
  unfold rngD
  simp only
  rw [if_pos h]
theorem rngD_two {i j : Int} (h : i.natAbs < 4611686018427387904) (h2 : j.natAbs < 4611686018427387904) : rngD [.int i, .int j] = mok (rngL i j) := by
  unfold rngD
  simp only
  rw [if_pos ⟨h, h2⟩]
theorem dIt_of {s : D → M (List D)} {f : DEnv → M D} {env : DEnv} {d : D} (h : f env = mok d) : dIt s f env = s d := by
  unfold dIt
  rw [h]
  rfl
end DL

/-! The data layer: reckoning, statement by statement. -/
namespace DL
open PySem PySem.Spec PyProof.Rows L2
def Wp (m : Option Out) (Q : Out → Prop) : Prop := ∃ o, m = some o ∧ Q o
def seqO (m : Option Out) (h : DEnv → Option Out) : Option Out := match m with
  | some (.nx e) => h e
  | o => o
def ifO (b : Bool) (g h : DEnv → Option Out) (env : DEnv) : Option Out := if b then g env else h env
def stepO (p : D → DEnv → Option DEnv) (g : DEnv → Option Out) (d : D) (env : DEnv) : Option Out := match p d env with
  | none => none
  | some e => g e
/-- what a loop's body has to end in -/
def LP (J : DEnv → Prop) (h : DEnv → Option Out) (Q : Out → Prop) : Out → Prop
  | .nx e => J e
  | .ct e => J e
  | .bk e => Wp (h e) Q
  | .rt o d => Q (.rt o d)
  | .xc c e => Q (.xc c e)
section
variable {g h k : DEnv → Option Out} {env e : DEnv} {Q : Out → Prop} {o : Bool} {d : D} {c : Value} {J : DEnv → Prop} {m : Option Out}
theorem ev_seq : dSeq g h env = seqO (g env) h := rfl
theorem ev_nx : seqO (some (.nx e)) h = h e := rfl
theorem ev_rt : seqO (some (.rt o d)) h = some (.rt o d) := rfl
theorem ev_xc : seqO (some (.xc c e)) h = some (.xc c e) := rfl
theorem ev_bk : seqO (some (.bk e)) h = some (.bk e) := rfl
theorem ev_ct : seqO (some (.ct e)) h = some (.ct e) := rfl
theorem ev_ss : seqO (seqO m h) k = seqO m (fun e => seqO (h e) k) := by
  unfold seqO
  match m with
  | none => rfl
  | some (.nx e) => rfl
  | some (.rt o d) => rfl
  | some (.xc c e) => rfl
  | some (.bk e) => rfl
  | some (.ct e) => rfl
theorem ev_if {p : DEnv → M Bool} : dIfS p g h env = eS (p env) env fun b => ifO b g h env := rfl
theorem ev_ifT : ifO true g h env = g env := rfl
theorem ev_ifF : ifO false g h env = h env := rfl
theorem ev_step {p : D → DEnv → Option DEnv} (h1 : p d env = some e) : stepO p g d env = g e := by unfold stepO; rw [h1]
theorem ev_stepN {i : Nat} : stepO (gN i) g d env = g (env.set i (some (.fz d))) := rfl
theorem lp_nx : LP J h Q (.nx e) = J e := rfl
theorem lp_ct : LP J h Q (.ct e) = J e := rfl
theorem lp_bk : LP J h Q (.bk e) = Wp (h e) Q := rfl
theorem lp_rt : LP J h Q (.rt o d) = Q (.rt o d) := rfl
theorem lp_xc : LP J h Q (.xc c e) = Q (.xc c e) := rfl
theorem wp_some {x : Out} : Wp (some x) Q = Q x := by
  unfold Wp
  apply propext
  constructor
  · rintro ⟨o, h, hq⟩
    cases h
    exact hq
  · exact fun h => ⟨x, rfl, h⟩
theorem wp_if {b : Bool} (h1 : b = true → Wp (g env) Q) (h2 : b = false → Wp (h env) Q) : Wp (ifO b g h env) Q := by
  cases b with
  | true => exact h1 rfl
  | false => exact h2 rfl
theorem wp_ifK {b : Bool} (h1 : b = true → Wp (seqO (g env) k) Q) (h2 : b = false → Wp (seqO (h env) k) Q) : Wp (seqO (ifO b g h env) k) Q := by
  cases b with
  | true => exact h1 rfl
  | false => exact h2 rfl
/-- cut: what the first half has reached -/
theorem wp_cut (P : DEnv → Prop) (h1 : Wp m (LP P k Q)) (hb : ∀ e, Wp (k e) Q → Q (.bk e)) (hct : ∀ e, P e → Q (.ct e)) (h2 : ∀ e, P e → Wp (k e) Q) : Wp (seqO m k) Q := by
  obtain ⟨o, rfl, ho⟩ := h1
  match o, ho with
  | .nx e, ho => exact h2 e ho
  | .rt o d, ho => exact ⟨_, rfl, ho⟩
  | .xc c e, ho => exact ⟨_, rfl, ho⟩
  | .bk e, ho => exact ⟨_, rfl, hb e ho⟩
  | .ct e, ho => exact ⟨_, rfl, hct e ho⟩
theorem wp_forL {p : D → DEnv → Option DEnv} {ds : List D} (J : Nat → DEnv → Prop) (h0 : J 0 env)
    (hs : ∀ i d e, ds[i]? = some d → J i e → Wp (stepO p g d e) (LP (J (i + 1)) h Q)) (hh : ∀ e, J ds.length e → Wp (h e) Q) : Wp (seqO (forD p g ds env) h) Q := by
  have key : ∀ (l : List D) (k : Nat) (e : DEnv), k + l.length = ds.length → ds.drop k = l → J k e → Wp (seqO (forD p g l e) h) Q := by
    intro l
    induction l with
    | nil =>
      intro k e hk _ hj
      have : k = ds.length := by simpa using hk
      subst this
      exact hh e hj
    | cons d l ih =>
      intro k e hk hd hj
      have hkd : ds[k]? = some d := by
        have := congrArg (fun z => z[0]?) hd
        simpa using this
      have hd2 : ds.drop (k + 1) = l := by
        rw [← List.tail_drop, hd]
        rfl
      have hk2 : k + 1 + l.length = ds.length := by simp at hk; omega
      obtain ⟨o, h1, h2⟩ := hs k d e hkd hj
      unfold stepO at h1
      unfold forD
      cases hp : p d e with
      | none => rw [hp] at h1; exact absurd h1 (by simp)
      | some e1 =>
        rw [hp] at h1
        simp only at h1
        simp only [h1]
        match o, h2 with
        | .nx e2, h2 => exact ih (k + 1) e2 hk2 hd2 h2
        | .ct e2, h2 => exact ih (k + 1) e2 hk2 hd2 h2
        | .bk e2, h2 => exact h2
        | .rt o d, h2 => exact ⟨_, rfl, h2⟩
        | .xc c e2, h2 => exact ⟨_, rfl, h2⟩
  exact key ds 0 env (by simp) rfl h0
theorem wp_for {p : D → DEnv → Option DEnv} {s : DEnv → M (List D)} {ds : List D} (h1 : s env = mok ds) (J : Nat → DEnv → Prop) (h0 : J 0 env)
    (hs : ∀ i d e, ds[i]? = some d → J i e → Wp (stepO p g d e) (LP (J (i + 1)) h Q)) (hh : ∀ e, J ds.length e → Wp (h e) Q) : Wp (seqO (dFor p s g env) h) Q := by
  unfold dFor
  rw [h1, eS_mok]
  exact wp_forL J h0 hs hh
/-- as the last statement -/
theorem wp_for1 {p : D → DEnv → Option DEnv} {s : DEnv → M (List D)} {ds : List D} (h1 : s env = mok ds) (J : Nat → DEnv → Prop) (h0 : J 0 env)
    (hs : ∀ i d e, ds[i]? = some d → J i e → Wp (stepO p g d e) (LP (J (i + 1)) dNx Q)) (hh : ∀ e, J ds.length e → Q (.nx e)) : Wp (dFor p s g env) Q := by
  have key := wp_for (h := dNx) (Q := Q) h1 J h0 hs fun e he => ⟨_, rfl, hh e he⟩
  have : ∀ m, seqO m dNx = m := fun m => by
    unfold seqO
    match m with
    | none => rfl
    | some (.nx e) => rfl
    | some (.rt o d) => rfl
    | some (.xc c e) => rfl
    | some (.bk e) => rfl
    | some (.ct e) => rfl
  rwa [this] at key
theorem ev_forC {p : D → DEnv → Option DEnv} {s : DEnv → M (List D)} {ds : List D} (h1 : s env = mok ds) : dFor p s g env = forD p g ds env := by
  unfold dFor
  rw [h1, eS_mok]
/-- an unrolled loop -/
def loopO (m : Option Out) (p : D → DEnv → Option DEnv) (g : DEnv → Option Out) (ds : List D) : Option Out := match m with
  | some (.nx e) => forD p g ds e
  | some (.ct e) => forD p g ds e
  | some (.bk e) => some (.nx e)
  | o => o
section
variable {p : D → DEnv → Option DEnv} {ds : List D}
theorem ev_forN : forD p g [] env = some (.nx env) := rfl
theorem ev_forS : forD p g (d :: ds) env = loopO (stepO p g d env) p g ds := by
  unfold stepO loopO
  rw [forD]
  cases p d env with
  | none => rfl
  | some e =>
    cases hg : g e with
    | none => simp only [hg]
    | some z => cases z <;> simp only [hg]
theorem ev_lnx : loopO (some (.nx e)) p g ds = forD p g ds e := rfl
theorem ev_lct : loopO (some (.ct e)) p g ds = forD p g ds e := rfl
theorem ev_lbk : loopO (some (.bk e)) p g ds = some (.nx e) := rfl
theorem ev_lrt : loopO (some (.rt o d)) p g ds = some (.rt o d) := rfl
theorem ev_lxc : loopO (some (.xc c e)) p g ds = some (.xc c e) := rfl
end
section
variable {p : D → DEnv → Option DEnv} {t : DEnv → M Bool} {f : DEnv → M D} {ds xs : List D} {x : D}
theorem ev_lcN : lcD p t f env [] = some [] := rfl
theorem ev_lcS (h1 : p d env = some e) (h2 : t e = mok true) (h3 : f e = mok x) (h4 : lcD p t f env ds = some xs) : lcD p t f env (d :: ds) = some (x :: xs) := by
  unfold lcD
  rw [h1]
  simp only [h2, h3, mok, h4, Option.map_some]
end
theorem ev_app {i : Nat} {f : DEnv → M D} {ds : List D} (h1 : env[i]? = some (some (.ow (.list ds)))) : dApp i f env = eS (f env) env fun d => if ds.length < sizeLine then some (.nx (env.set i (some (.ow (.list (ds ++ [d])))))) else none := by
  unfold dApp
  rw [h1]
theorem ev_appOk {n : Nat} {x : Option Out} (h : n < 16777216) : (if n < sizeLine then x else none) = x := if_pos h
end
theorem ixN_ok {n : Nat} {i : Int} (h0 : 0 ≤ i) (h : i < n) : ixN n i = some i.toNat := by
  unfold ixN
  first
  | (rw [if_pos h0, if_pos (by omega)])
  | (simp; omega)
theorem run_wp {n : Nat} {g : DEnv → Option Out} {ds : List D} {P : Bool → D → Prop} (h : Wp (g (startD n ds)) fun o => ∃ b d, o = .rt b d ∧ P b d) : ∃ b d, runD n g ds = some (.ret b d) ∧ P b d := by
  obtain ⟨o, h1, b, d, rfl, hp⟩ := h
  exact ⟨b, d, run_rt h1, hp⟩
theorem rng_at {lo hi : Int} {i : Nat} {d : D} (h : (rngL lo hi)[i]? = some d) : lo + i < hi ∧ d = .int (lo + i) := by
  unfold rngL at h
  rw [List.getElem?_map] at h
  cases hr : (List.range (hi - lo).toNat)[i]? with
  | none => rw [hr] at h; simp at h
  | some j =>
    rw [hr] at h
    obtain ⟨h1, h2⟩ := List.getElem?_eq_some_iff.mp hr
    simp at h1 h2 h
    subst h2
    refine ⟨by omega, h.symm⟩
theorem rng_len {lo hi : Int} : (rngL lo hi).length = (hi - lo).toNat := by simp [rngL]
end DL
namespace DL
open PySem PySem.Spec PyProof.Rows L2
theorem dLc_rng {vs : List Nat} {p : D → DEnv → Option DEnv} {s : DEnv → M (List D)} {t : DEnv → M Bool} {f : DEnv → M D} {env : DEnv} {n : Int} (F : Nat → D) (h1 : s env = mok (rngL 0 n)) (h2 : n ≤ 16777216)
    (h3 : ∀ i : Nat, (i : Int) < n → ∃ e1, p (.int i) (wipeD env vs) = some e1 ∧ t e1 = mok true ∧ f e1 = mok (F i)) : dLc vs p s t f env = mok (.list ((List.range n.toNat).map F)) := by
  refine dLc_ok h1 (by rw [rng_len]; exact sizeLine_ge (by omega)) ?_
  unfold rngL
  simp only [Int.sub_zero, Int.zero_add]
  exact lcD_map fun i hi => h3 i (by have := List.mem_range.mp hi; omega)
theorem dLc_all {vs : List Nat} {p : D → DEnv → Option DEnv} {s : DEnv → M (List D)} {t : DEnv → M Bool} {f : DEnv → M D} {env : DEnv} {α : Type} {ei : α → D} {xs : List α} (F : α → D) (h1 : s env = mok (xs.map ei)) (h2 : xs.length ≤ 16777216)
    (h3 : ∀ x ∈ xs, ∃ e1, p (ei x) (wipeD env vs) = some e1 ∧ t e1 = mok true ∧ f e1 = mok (F x)) : dLc vs p s t f env = mok (.list (xs.map F)) :=
  dLc_ok h1 (by rw [List.length_map]; exact sizeLine_ge h2) (lcD_map h3)
theorem dLc_flt {vs : List Nat} {p : D → DEnv → Option DEnv} {s : DEnv → M (List D)} {t : DEnv → M Bool} {f : DEnv → M D} {env : DEnv} {α : Type} {ei : α → D} {xs : List α} (c : α → Bool) (F : α → D) (h1 : s env = mok (xs.map ei)) (h2 : xs.length ≤ 16777216)
    (h3 : ∀ x ∈ xs, ∃ e1, p (ei x) (wipeD env vs) = some e1 ∧ t e1 = mok (c x) ∧ (c x = true → f e1 = mok (F x))) : dLc vs p s t f env = mok (.list ((xs.filter c).map F)) :=
  dLc_ok h1 (by rw [List.length_map]; exact sizeLine_ge h2) (lcD_filter h3)
theorem getD'_at {xs : List D} {i : Int} (h0 : 0 ≤ i) (h : i < xs.length) : getD' (.list xs) (.int i) = mok (xs.getD i.toNat .none) := by
  refine getD'_list (atI_nat' h0 ?_)
  have hi : i.toNat < xs.length := by omega
  rw [List.getElem?_eq_getElem hi, List.getD_eq_getElem?_getD, List.getElem?_eq_getElem hi]
  rfl
theorem getD'_atT {xs : List D} {i : Int} (h0 : 0 ≤ i) (h : i < xs.length) : getD' (.tuple xs) (.int i) = mok (xs.getD i.toNat .none) := by
  refine getD'_tuple (atI_nat' h0 ?_)
  have hi : i.toNat < xs.length := by omega
  rw [List.getElem?_eq_getElem hi, List.getD_eq_getElem?_getD, List.getElem?_eq_getElem hi]
  rfl
theorem getD'_atC {x : D} {xs : List D} {i : Int} (h0 : 0 ≤ i) (h : i < (x :: xs).length) : getD' (.list (x :: xs)) (.int i) = mok ((x :: xs).getD i.toNat .none) := getD'_at h0 h
theorem getD'_atCT {x : D} {xs : List D} {i : Int} (h0 : 0 ≤ i) (h : i < (x :: xs).length) : getD' (.tuple (x :: xs)) (.int i) = mok ((x :: xs).getD i.toNat .none) := getD'_atT h0 h
theorem ints_of {out : List D} {P : Int → Prop} (h : ∀ d ∈ out, ∃ n, d = .int n ∧ P n) : ∃ ns : List Int, out = ns.map .int ∧ ∀ n ∈ ns, P n := by
  induction out with
  | nil => exact ⟨[], rfl, by simp⟩
  | cons d out ih =>
    obtain ⟨n, rfl, hn⟩ := h d List.mem_cons_self
    obtain ⟨ns, rfl, hs⟩ := ih fun d hd => h d (List.mem_cons_of_mem _ hd)
    exact ⟨n :: ns, rfl, by intro m hm; rcases List.mem_cons.mp hm with rfl | hm <;> first | exact hn | exact hs m hm⟩
theorem map_of {α : Type} {f : α → D} {out : List D} {P : α → Prop} (h : ∀ d ∈ out, ∃ a, d = f a ∧ P a) : ∃ as : List α, out = as.map f ∧ ∀ a ∈ as, P a := by
  induction out with
  | nil => exact ⟨[], rfl, by simp⟩
  | cons d out ih =>
    obtain ⟨n, rfl, hn⟩ := h d List.mem_cons_self
    obtain ⟨ns, rfl, hs⟩ := ih fun d hd => h d (List.mem_cons_of_mem _ hd)
    exact ⟨n :: ns, rfl, by intro m hm; rcases List.mem_cons.mp hm with rfl | hm <;> first | exact hn | exact hs m hm⟩
end DL
namespace DL
open PySem PySem.Spec PyProof.Rows L2
theorem wp_eS {α : Type} {m : M α} {a : α} {env : DEnv} {k : α → Option Out} {Q : Out → Prop} (h : m = mok a) (h2 : Wp (k a) Q) : Wp (eS m env k) Q := by rw [h]; exact h2
theorem wp_eSK {α : Type} {m : M α} {a : α} {env : DEnv} {k : α → Option Out} {h : DEnv → Option Out} {Q : Out → Prop} (h1 : m = mok a) (h2 : Wp (seqO (k a) h) Q) : Wp (seqO (eS m env k) h) Q := by rw [h1]; exact h2
theorem rngL_step {lo hi : Int} (h : lo < hi) : rngL lo hi = .int lo :: rngL (lo + 1) hi := by
  unfold rngL
  have e : (hi - lo).toNat = (hi - (lo + 1)).toNat + 1 := by omega
  rw [e, List.range_succ_eq_map, List.map_cons, List.map_map]
  congr 1
  · simp
  · apply List.map_congr_left
    intro a _
    simp only [Function.comp, Nat.succ_eq_add_one]
    congr 1
    omega
theorem rngL_nil {lo hi : Int} (h : hi ≤ lo) : rngL lo hi = [] := by
  unfold rngL
  have e : (hi - lo).toNat = 0 := by omega
  rw [e]
  rfl
theorem ev_ret {o : Bool} {d : D} : dRes (some (.ret o d)) = mok d := rfl
theorem ev_exc {c : Value} : dRes (some (.exc c)) = some (.error c) := rfl
theorem maxD_int {i j : Int} : maxD [.int i, .int j] = mok (.int (if j > i then j else i)) := rfl
theorem minD_int {i j : Int} : minD [.int i, .int j] = mok (.int (if j < i then j else i)) := rfl
theorem absD_int {i : Int} : absD [.int i] = mok (.int (if i < 0 then -i else i)) := rfl
theorem isiD_bool {b : Bool} : isiD "bool" (.bool b) = mok (.bool true) := rfl
theorem ev_andM {c : Prop} [Decidable c] {b : Bool} : (if c then mok b else mok false) = mok (decide c && b) := by
  by_cases h : c <;> simp [h]
theorem ev_orM {c : Prop} [Decidable c] {b : Bool} : (if c then mok true else mok b) = mok (decide c || b) := by
  by_cases h : c <;> simp [h]
theorem range_0 : List.range 0 = [] := rfl
theorem range_1 : List.range 1 = [0] := rfl
theorem range_2 : List.range 2 = [0, 1] := rfl
theorem range_3 : List.range 3 = [0, 1, 2] := rfl
theorem range_4 : List.range 4 = [0, 1, 2, 3] := rfl
theorem range_5 : List.range 5 = [0, 1, 2, 3, 4] := rfl
end DL

/-! The data layer: sameness, reckoned. -/
namespace DL
open PySem PySem.Spec PyProof.Rows L2
mutual
theorem eqv_self : ∀ d : D, noD d = true → PyData.eqv d d = true
  | .none, _ => rfl
  | .bool b, _ => by simp [PyData.eqv]
  | .int i, _ => by simp [PyData.eqv]
  | .str s, _ => by simp [PyData.eqv]
  | .list xs, h => by
    rw [PyData.eqv]
    exact eqvs_self xs (by simpa [noD] using h)
  | .tuple xs, h => by
    rw [PyData.eqv]
    exact eqvs_self xs (by simpa [noD] using h)
  | .dict _, h => by simp [noD] at h
theorem eqvs_self : ∀ xs : List D, noDs xs = true → PyData.eqvAll xs xs = true
  | [], _ => rfl
  | x :: xs, h => by
    have h' : noD x = true ∧ noDs xs = true := by simpa [noDs] using h
    rw [PyData.eqvAll, eqv_self x h'.1, eqvs_self xs h'.2]
    rfl
end
/-- no dict within, and no deeper than n -/
def Nd (n : Nat) (d : D) : Prop := noD d = true ∧ d.depth ≤ n
theorem Nd.mono {n m : Nat} {d : D} (h : Nd n d) (hm : n ≤ m) : Nd m d := ⟨h.1, Nat.le_trans h.2 hm⟩
theorem nd_none {n : Nat} : Nd (n + 1) .none := ⟨rfl, by simp [PyData.depth]⟩
theorem nd_bool {n : Nat} {b : Bool} : Nd (n + 1) (.bool b) := ⟨rfl, by simp [PyData.depth]⟩
theorem nd_int {n : Nat} {i : Int} : Nd (n + 1) (.int i) := ⟨rfl, by simp [PyData.depth]⟩
theorem nd_str {n : Nat} {s : Str} : Nd (n + 1) (.str s) := ⟨rfl, by simp [PyData.depth]⟩
theorem nds_of {n : Nat} : ∀ {xs : List D}, (∀ x ∈ xs, Nd n x) → noDs xs = true ∧ PyData.depthAll xs ≤ n
  | [], _ => ⟨rfl, by simp [PyData.depthAll]⟩
  | x :: xs, h => by
    have h1 := h x List.mem_cons_self
    have h2 := nds_of fun y hy => h y (List.mem_cons_of_mem _ hy)
    refine ⟨by simp [noDs, h1.1, h2.1], ?_⟩
    have a := h1.2
    have b := h2.2
    simp only [PyData.depthAll]
    omega
theorem nd_list {n : Nat} {xs : List D} (h : ∀ x ∈ xs, Nd n x) : Nd (n + 1) (.list xs) := by
  obtain ⟨h1, h2⟩ := nds_of h
  refine ⟨by rw [noD]; exact h1, ?_⟩
  simp only [PyData.depth]
  omega
theorem nd_tuple {n : Nat} {xs : List D} (h : ∀ x ∈ xs, Nd n x) : Nd (n + 1) (.tuple xs) := by
  obtain ⟨h1, h2⟩ := nds_of h
  refine ⟨by rw [noD]; exact h1, ?_⟩
  simp only [PyData.depth]
  omega
theorem Nd.eqOk {n : Nat} {d : D} (h : Nd n d) (hn : n ≤ 60) : eqOk d = true := by
  unfold DL.eqOk
  rw [h.1, decide_eq_true (Nat.le_trans h.2 hn)]
  rfl
theorem eqD_ok {d e : D} (h1 : eqOk d = true) (h2 : eqOk e = true) : eqD d e = mok (.bool (PyData.eqv d e)) := if_pos ⟨h1, h2⟩
theorem neD_ok {d e : D} (h1 : eqOk d = true) (h2 : eqOk e = true) : neD d e = mok (.bool (!PyData.eqv d e)) := if_pos ⟨h1, h2⟩
theorem eqD_self {d : D} {n : Nat} (h1 : Nd n d) (h2 : n ≤ 60) : eqD d d = mok (.bool true) := by rw [eqD_ok (h1.eqOk h2) (h1.eqOk h2), eqv_self d h1.1]
theorem neD_self {d : D} {n : Nat} (h1 : Nd n d) (h2 : n ≤ 60) : neD d d = mok (.bool false) := by rw [neD_ok (h1.eqOk h2) (h1.eqOk h2), eqv_self d h1.1]; rfl
theorem mem_map_nd {α : Type} {f : α → D} {xs : List α} {n : Nat} (h : ∀ x ∈ xs, Nd n (f x)) : ∀ d ∈ xs.map f, Nd n d := by
  intro d hd
  obtain ⟨x, hx, rfl⟩ := List.mem_map.mp hd
  exact h x hx
end DL
namespace DL
open PySem PySem.Spec PyProof.Rows L2
theorem wp_cutN {m : Option Out} {k : DEnv → Option Out} {Q : Out → Prop} (P : DEnv → Prop) (h1 : Wp m (fun o => ∃ e, o = .nx e ∧ P e)) (h2 : ∀ e, P e → Wp (k e) Q) : Wp (seqO m k) Q := by
  obtain ⟨o, rfl, e, rfl, he⟩ := h1
  exact h2 e he
theorem dFnK_of {G : List D → Option Res} {fs : DEnv → M (List D)} {f : DEnv → M D} {env : DEnv} {ds : List D} {d z : D} {b : Bool} (h1 : fs env = mok ds) (h2 : f env = mok d) (h3 : G (ds ++ [d]) = some (.ret b z)) : dFnK G fs f env = mok z := by
  unfold dFnK
  simp only [h1, h2, mbind_mok, h3]
end DL
namespace DL
open PySem PySem.Spec PyProof.Rows L2
theorem cx_no {P : Program} {w : World} {outer : List Env} {H : Hp} {s : Shared} {e : Value} {s' : Shared} (h : L2.CX P w outer H s (fun _ _ _ => False) e s') : False := by
  obtain ⟨_, _, _, _, _, _, _, _, _, _, _, _, z⟩ := h
  exact z
theorem rp_ints {K : PySem.W.Frag} {w : World} {H : Hp} : ∀ ns : List Int, RpA K w H (ns.map V.int) (ns.map PyData.int)
  | [] => .nil
  | n :: ns => .cons (.int n) (rp_ints ns)
/-- the law's own promise, from what its def computes -/
theorem law_sp {K : PySem.W.Frag} {w : World} {H : Hp} {a : Addr} {ns : List Int} {G : List D → Option Res} {E : XK} (hS : SqL K H a (ns.map V.int)) (h : ∃ b d, G [.list (ns.map .int)] = some (.ret b d) ∧ d = .bool true) :
    spD K w 1 G [.ref a] H (fun v _ => v = .bl true) E := by
  obtain ⟨b, d, h, rfl⟩ := h
  refine ⟨rfl, H, [.list (ns.map .int)], fun _ _ e => e, .cons (.lst hS (rp_ints ns)) .nil, ?_⟩
  rw [h]
  intro F' H' v x r
  cases b with
  | false => exact Sh.bool (K := K) (w := w) (F := F') (H := H') (.inl r)
  | true => exact Sh.bool (K := K) (w := w) (F := F') (H := H') (.inr r.1)
end DL

/-! The data layer: texts, reckoned. -/
namespace DL
open PySem PySem.Spec PyProof.Rows L2
/-- the text of these signs -/
def T (l : List Nat) : Str := ⟨l.toArray⟩
theorem T_cs (l : List Nat) : (T l).cps.toList = l := rfl
theorem T_of (x : Str) : x = T x.cps.toList := rfl
theorem T_len (l : List Nat) : (T l).length = l.length := by
  show l.toArray.size = _
  simp
theorem T_inj {a b : List Nat} (h : T a = T b) : a = b := by
  have := congrArg (fun x : Str => x.cps.toList) h
  exact this
theorem T_app (a b : List Nat) : T a ++ T b = T (a ++ b) := by
  have h : (T a ++ T b).cps = (T (a ++ b)).cps := by
    rw [Str.cps_append]
    show a.toArray ++ b.toArray = (a ++ b).toArray
    simp
  exact Str.ext' h
section
variable {a b : List Nat} {i : Int}
theorem addD_T (h : a.length + b.length ≤ 16777216) : addD (.str (T a)) (.str (T b)) = mok (.str (T (a ++ b))) := by
  unfold addD
  simp only
  rw [T_len, T_len, if_pos (show _ ≤ sizeLine from h), T_app]
theorem iaddD_T (h : a.length + b.length ≤ 16777216) : iaddD (.str (T a)) (.str (T b)) = mok (.str (T (a ++ b))) := by
  unfold iaddD
  simp only
  rw [T_len, T_len, if_pos (show _ ≤ sizeLine from h), T_app]
theorem lenD_T (h : a.length ≤ 16777216) : lenD [.str (T a)] = mok (.int a.length) := by
  unfold lenD
  simp only
  rw [T_len, if_pos (show _ ≤ sizeLine from h)]
theorem getD'_T {c : Nat} (h : a.length ≤ 16777216) (h0 : 0 ≤ i) (hi : a[i.toNat]? = some c) : getD' (.str (T a)) (.int i) = mok (.str (T [c])) := by
  unfold getD'
  simp only
  rw [T_len, if_pos (show _ ≤ sizeLine from h)]
  have : atI (T a).cps.toList i = some c := atI_nat' h0 hi
  rw [this]
  rfl
theorem cutD_T {lo hi : Option Int} (h : a.length ≤ 16777216) : cutD (.str (T a)) lo hi = mok (.str (T ((a.drop (HT.sIx a.length 0 lo)).take (HT.sIx a.length a.length hi - HT.sIx a.length 0 lo)))) := by
  unfold cutD
  simp only
  rw [T_len, if_pos (show _ ≤ sizeLine from h)]
  unfold cutS
  rw [T_len, T_cs]
  rfl
theorem cutD_to (h : a.length ≤ 16777216) (h0 : 0 ≤ i) : cutD (.str (T a)) none (some i) = mok (.str (T (a.take i.toNat))) := by
  rw [cutD_T h]
  have e : i = (i.toNat : Int) := by omega
  rw [e, HT.sIx_none, HT.sIx_nat, List.drop_zero, Nat.sub_zero, ← e]
  congr 3
  rcases Nat.le_total i.toNat a.length with h | h
  · rw [Nat.min_eq_left h]
  · rw [Nat.min_eq_right h, List.take_of_length_le (Nat.le_refl _), List.take_of_length_le h]
theorem cutD_from (h : a.length ≤ 16777216) (h0 : 0 ≤ i) : cutD (.str (T a)) (some i) none = mok (.str (T (a.drop i.toNat))) := by
  rw [cutD_T h]
  have e : i = (i.toNat : Int) := by omega
  rw [e, HT.sIx_none, HT.sIx_nat, ← e]
  congr 3
  rcases Nat.le_total i.toNat a.length with h | h
  · rw [Nat.min_eq_left h, List.take_of_length_le (by simp)]
  · rw [Nat.min_eq_right h, List.drop_of_length_le (Nat.le_refl _), List.drop_of_length_le h]
    simp
theorem eqv_T : PyData.eqv (.str (T a)) (.str (T b)) = decide (a = b) := by
  simp only [PyData.eqv]
  by_cases h : a = b
  · subst h; simp
  · have h2 : T a ≠ T b := fun e => h (T_inj e)
    simp [h, h2]
theorem eqD_T : eqD (.str (T a)) (.str (T b)) = mok (.bool (decide (a = b))) := by
  rw [eqD_ok rfl rfl, eqv_T]
theorem neD_T : neD (.str (T a)) (.str (T b)) = mok (.bool (!decide (a = b))) := by
  rw [neD_ok rfl rfl, eqv_T]
theorem isiD_str {x : Str} : isiD "str" (.str x) = mok (.bool true) := rfl
end
theorem letter_small {i : Int} (h0 : 0 ≤ i) (h1 : i < 26) : getD' (.str "abcdefghijklmnopqrstuvwxyz") (.int i) = mok (.str (T [97 + i.toNat])) := by
  have key : ∀ j : Fin 26, getD' (.str "abcdefghijklmnopqrstuvwxyz") (.int (j.1 : Int)) = mok (.str (T [97 + j.1])) := by
    intro j
    have : ∀ j : Fin 26, (T [97, 98, 99, 100, 101, 102, 103, 104, 105, 106, 107, 108, 109, 110, 111, 112, 113, 114, 115, 116, 117, 118, 119, 120, 121, 122]).cps.toList[j.1]? = some (97 + j.1) := by decide
    exact getD'_T (a := [97, 98, 99, 100, 101, 102, 103, 104, 105, 106, 107, 108, 109, 110, 111, 112, 113, 114, 115, 116, 117, 118, 119, 120, 121, 122]) (by decide) (by omega) (this j)
  have := key ⟨i.toNat, by omega⟩
  simp only at this
  rwa [show ((i.toNat : Nat) : Int) = i by omega] at this
theorem letter_great {i : Int} (h0 : 0 ≤ i) (h1 : i < 26) : getD' (.str "ABCDEFGHIJKLMNOPQRSTUVWXYZ") (.int i) = mok (.str (T [65 + i.toNat])) := by
  have key : ∀ j : Fin 26, getD' (.str "ABCDEFGHIJKLMNOPQRSTUVWXYZ") (.int (j.1 : Int)) = mok (.str (T [65 + j.1])) := by
    intro j
    have : ∀ j : Fin 26, (T [65, 66, 67, 68, 69, 70, 71, 72, 73, 74, 75, 76, 77, 78, 79, 80, 81, 82, 83, 84, 85, 86, 87, 88, 89, 90]).cps.toList[j.1]? = some (65 + j.1) := by decide
    exact getD'_T (a := [65, 66, 67, 68, 69, 70, 71, 72, 73, 74, 75, 76, 77, 78, 79, 80, 81, 82, 83, 84, 85, 86, 87, 88, 89, 90]) (by decide) (by omega) (this j)
  have := key ⟨i.toNat, by omega⟩
  simp only at this
  rwa [show ((i.toNat : Nat) : Int) = i by omega] at this
theorem addD_list {xs ys : List D} (h : xs.length + ys.length ≤ 16777216) : addD (.list xs) (.list ys) = mok (.list (xs ++ ys)) := by
  unfold addD
  simp only
  rw [if_pos (show _ ≤ sizeLine from h)]
theorem addL_list {xs ys : List D} (h : xs.length + ys.length ≤ 16777216) : addL (.list xs) (.list ys) = mok (.list (xs ++ ys)) := by
  unfold addL
  simp only
  rw [if_pos (show _ ≤ sizeLine from h)]
theorem addD_tuple {xs ys : List D} (h : xs.length + ys.length ≤ 16777216) : addD (.tuple xs) (.tuple ys) = mok (.tuple (xs ++ ys)) := by
  unfold addD
  simp only
  rw [if_pos (show _ ≤ sizeLine from h)]
theorem cutA_to {α : Type} {xs : List α} {i : Int} (h0 : 0 ≤ i) : cutA xs none (some i) = xs.take i.toNat := by
  unfold cutA
  have e : i = (i.toNat : Int) := by omega
  rw [e, HT.sIx_none, HT.sIx_nat, List.drop_zero, Nat.sub_zero, ← e]
  rcases Nat.le_total i.toNat xs.length with h | h
  · rw [Nat.min_eq_left h]
  · rw [Nat.min_eq_right h, List.take_of_length_le (Nat.le_refl _), List.take_of_length_le h]
theorem cutA_from {α : Type} {xs : List α} {i : Int} (h0 : 0 ≤ i) : cutA xs (some i) none = xs.drop i.toNat := by
  unfold cutA
  have e : i = (i.toNat : Int) := by omega
  rw [e, HT.sIx_none, HT.sIx_nat, ← e]
  rcases Nat.le_total i.toNat xs.length with h | h
  · rw [Nat.min_eq_left h, List.take_of_length_le (by simp)]
  · rw [Nat.min_eq_right h, List.drop_of_length_le (Nat.le_refl _), List.drop_of_length_le h]
    simp
theorem cutD_toT {xs : List D} {i : Int} (h0 : 0 ≤ i) : cutD (.tuple xs) none (some i) = mok (.tuple (xs.take i.toNat)) := by
  show mok (PyData.tuple (cutA xs none (some i))) = _
  rw [cutA_to h0]
theorem cutD_fromT {xs : List D} {i : Int} (h0 : 0 ≤ i) : cutD (.tuple xs) (some i) none = mok (.tuple (xs.drop i.toNat)) := by
  show mok (PyData.tuple (cutA xs (some i) none)) = _
  rw [cutA_from h0]
theorem cutD_toL {xs : List D} {i : Int} (h0 : 0 ≤ i) : cutD (.list xs) none (some i) = mok (.list (xs.take i.toNat)) := by
  show mok (PyData.list (cutA xs none (some i))) = _
  rw [cutA_to h0]
theorem cutD_fromL {xs : List D} {i : Int} (h0 : 0 ≤ i) : cutD (.list xs) (some i) none = mok (.list (xs.drop i.toNat)) := by
  show mok (PyData.list (cutA xs (some i) none)) = _
  rw [cutA_from h0]
theorem cutO_toL {xs : List D} {i : Int} (h0 : 0 ≤ i) : cutO (.list xs) none (some i) = mok (.list (xs.take i.toNat)) := by
  show mok (PyData.list (cutA xs none (some i))) = _
  rw [cutA_to h0]
theorem cutO_fromL {xs : List D} {i : Int} (h0 : 0 ≤ i) : cutO (.list xs) (some i) none = mok (.list (xs.drop i.toNat)) := by
  show mok (PyData.list (cutA xs (some i) none)) = _
  rw [cutA_from h0]
theorem sortD_list {xs : List D} : sortD [.list xs] = sortL xs := rfl
theorem sortD_tuple {xs : List D} : sortD [.tuple xs] = sortL xs := rfl
theorem zipD_list {xs ys : List D} (h : plainP (zipL xs ys) = true) : zipD [.list xs, .list ys] = mok (zipL xs ys) := by
  show (if plainP (zipL xs ys) = true then mok (zipL xs ys) else none) = _
  rw [if_pos h]
theorem zipD_tuple {xs ys : List D} (h : plainP (zipL xs ys) = true) : zipD [.tuple xs, .tuple ys] = mok (zipL xs ys) := by
  show (if plainP (zipL xs ys) = true then mok (zipL xs ys) else none) = _
  rw [if_pos h]
theorem asLT_list {xs : List D} : asLT (.list xs) = mok xs := rfl
theorem asLT_tuple {xs : List D} : asLT (.tuple xs) = mok xs := rfl
end DL

/-! Reckoning: comprehensions whose items are only bounded, dicts, try. -/
namespace DL
open PySem PySem.Spec PyProof.Rows L2
theorem lcD_ex {p : D → DEnv → Option DEnv} {t : DEnv → M Bool} {f : DEnv → M D} {env : DEnv} {P : D → Prop} : ∀ {ds : List D}, (∀ d ∈ ds, ∃ e x, p d env = some e ∧ t e = mok true ∧ f e = mok x ∧ P x) → ∃ xs, lcD p t f env ds = some xs ∧ xs.length = ds.length ∧ ∀ x ∈ xs, P x
  | [], _ => ⟨[], rfl, rfl, by intro x hx; cases hx⟩
  | d :: ds, h => by
    obtain ⟨e, x, h1, h2, h3, h4⟩ := h d List.mem_cons_self
    obtain ⟨xs, h5, h6, h7⟩ := lcD_ex fun y hy => h y (List.mem_cons_of_mem _ hy)
    refine ⟨x :: xs, ev_lcS h1 h2 h3 h5, by simp [h6], fun y hy => ?_⟩
    rcases List.mem_cons.mp hy with rfl | hy
    · exact h4
    · exact h7 y hy
theorem dLc_ex {vs : List Nat} {p : D → DEnv → Option DEnv} {s : DEnv → M (List D)} {t : DEnv → M Bool} {f : DEnv → M D} {env : DEnv} {P : D → Prop} {ds : List D} (h1 : s env = mok ds) (h2 : ds.length ≤ 16777216)
    (h3 : ∀ d ∈ ds, ∃ e x, p d (wipeD env vs) = some e ∧ t e = mok true ∧ f e = mok x ∧ P x) : ∃ xs, dLc vs p s t f env = mok (.list xs) ∧ xs.length = ds.length ∧ ∀ x ∈ xs, P x := by
  obtain ⟨xs, h4, h5, h6⟩ := lcD_ex h3
  exact ⟨xs, dLc_ok h1 (sizeLine_ge h2) h4, h5, h6⟩
theorem ev_put {i : Nat} {fk fe : DEnv → M D} {env : DEnv} {kvs : List (D × D)} {k d : D} (h1 : env[i]? = some (some (.ow (.dict kvs)))) (h2 : fe env = mok d) (h3 : fk env = mok k) (h4 : keyOk k = true) (h5 : kvs.length < 16777216) :
    dPut i fk fe env = some (.nx (env.set i (some (.ow (.dict (putD kvs k d)))))) := by
  unfold dPut
  rw [h1]
  simp only [h2, h3, eS_mok]
  rw [if_pos ⟨h4, h5⟩]
theorem ev_get {fd : DEnv → M D} {fs : DEnv → M (List D)} {env : DEnv} {kvs : List (D × D)} {k x : D} (h1 : fd env = mok (.dict kvs)) (h2 : fs env = mok [k, x]) (h3 : keyOk k = true) : dGet fd fs env = mok ((findD kvs k).getD x) := by
  unfold dGet
  rw [h1, mbind_mok]
  simp only [h2, mbind_mok, getX]
  rw [if_pos h3]
theorem rng_mem {lo hi : Int} {d : D} (h : d ∈ rngL lo hi) : ∃ i : Int, d = .int i ∧ lo ≤ i ∧ i < hi := by
  obtain ⟨n, h1, h2⟩ := List.mem_map.mp h
  have := List.mem_range.mp h1
  exact ⟨_, h2.symm, by omega, by omega⟩
theorem ev_augL {i : Nat} {f : DEnv → M D} {env : DEnv} {ds es : List D} (h1 : env[i]? = some (some (.ow (.list ds)))) (h2 : f env = mok (.list es)) (h3 : ds.length + es.length ≤ 16777216) : dAugL i f env = some (.nx (env.set i (some (.ow (.list (ds ++ es)))))) := by
  unfold dAugL
  rw [h1]
  simp only [h2, eS_mok]
  rw [if_pos (sizeLine_ge h3)]
theorem ev_move {i j : Nat} {env : DEnv} {s : Sl} (h : env[j]? = some (some s)) : dMove i j env = some (.nx ((env.set j none).set i (some s))) := by
  unfold dMove
  rw [h]
theorem ev_clear {i : Nat} {env : DEnv} {ds : List D} (h : env[i]? = some (some (.ow (.list ds)))) : dClear i env = some (.nx (env.set i (some (.ow (.list []))))) := by
  unfold dClear
  rw [h]
theorem run_wpR {n : Nat} {g : DEnv → Option Out} {ds : List D} {R : Option Res → Prop} (h : Wp (g (startD n ds)) fun o => R (resOf (some o))) : R (runD n g ds) := by
  obtain ⟨o, h1, h2⟩ := h
  unfold runD
  rw [h1]
  exact h2
theorem ev_try {i : Nat} {ca : Value → Option Bool} {gb : DEnv → Option Out} {gs : Value → DEnv → Option Out} {env e : DEnv} {c : Value} (h : gb env = some (.xc c e)) (hc : ca c = some true) (hx : noXp e = true) : dTry i ca gb gs env = backX i (gs c (e.set i (some .xp))) := by
  unfold dTry
  rw [h]
  simp only [catchX, hc, hx, if_true]
theorem ev_tryN {i : Nat} {ca : Value → Option Bool} {gb : DEnv → Option Out} {gs : Value → DEnv → Option Out} {env e : DEnv} (h : gb env = some (.nx e)) : dTry i ca gb gs env = some (.nx e) := by
  unfold dTry
  rw [h]
theorem caE {E : Errs} {raised : List String} (hE : E.Good raised) {n m : String} (hn : n ∈ raised) : E.ca m (.ref (E.c n)) = some (subN n m) := by
  unfold Errs.ca
  rw [hE n hn]
  rfl
theorem isE' {E : Errs} {raised : List String} (hE : E.Good raised) {n m : String} (hn : n ∈ raised) : E.is (.ref (E.c n)) m = subN n m := by
  unfold Errs.is
  rw [hE n hn]
theorem law_spE {K : PySem.W.Frag} {w : World} {H : Hp} {a : Addr} {ns : List Int} {raised : List String} {G : Errs → List D → Option Res} {X : XK} (hS : SqL K H a (ns.map V.int)) (h : ∀ E : Errs, E.Good raised → ∃ b d, G E [.list (ns.map .int)] = some (.ret b d) ∧ d = .bool true) :
    spE K w raised G [.ref a] H (fun v _ => v = .bl true) X := fun E hE => law_sp hS (h E hE)
theorem dSeq_def {g h : DEnv → Option Out} {env : DEnv} : dSeq g h env = match g env with
  | some (.nx e) => h e
  | o => o := rfl
theorem perm_map {α β : Type} {f : α → β} (inj : ∀ a b, f a = f b → a = b) : ∀ {xs ys : List α}, (xs.map f).Perm (ys.map f) → xs.Perm ys
  | [], ys, h => by
    have := h.length_eq
    simp at this
    have : ys = [] := List.length_eq_zero_iff.mp this.symm
    rw [this]
  | x :: xs, ys, h => by
    have hx : f x ∈ ys.map f := h.mem_iff.mp (by simp)
    obtain ⟨y, hy, e⟩ := List.mem_map.mp hx
    have := inj _ _ e
    subst this
    obtain ⟨s, t, rfl⟩ := List.append_of_mem hy
    have h2 : ((y :: xs).map f).Perm ((y :: (s ++ t)).map f) := by
      refine h.trans ?_
      rw [List.map_append, List.map_cons, List.map_cons, List.map_append]
      exact List.perm_middle
    rw [List.map_cons, List.map_cons] at h2
    have h3 := perm_map inj (List.Perm.cons_inv h2)
    exact (h3.cons y).trans List.perm_middle.symm
theorem ev_andB {f g : DEnv → M D} {env : DEnv} {b c : Bool} (h1 : f env = mok (.bool b)) (h2 : g env = mok (.bool c)) : dAndV f g env = mok (.bool (b && c)) := by
  unfold dAndV
  rw [h1, mbind_mok]
  cases b
  · rfl
  · simp only [h2, Bool.true_and]
end DL

/-! Bags: pairs of a key and a count, as forms are. -/
namespace DL
open PySem PySem.Spec PyProof.Rows L2
/-! ### alike data with one row of signs are one -/
mutual
theorem toks_inj : ∀ (x y : D) (l m : List (Int ⊕ List Nat)), PySem.W.alike x y = true → PySem.W.keyToks x ++ l = PySem.W.keyToks y ++ m → x = y ∧ l = m
  | .none, y, l, m, h, e => by
    cases y <;> simp only [PySem.W.alike] at h <;> first | cases h | skip
    simp only [PySem.W.keyToks, List.nil_append] at e
    exact ⟨rfl, e⟩
  | .bool a, y, l, m, h, e => by
    cases y <;> simp only [PySem.W.alike] at h <;> first | cases h | skip
    rename_i b
    simp only [PySem.W.keyToks, List.cons_append, List.nil_append, List.cons.injEq, Sum.inl.injEq] at e
    refine ⟨?_, e.2⟩
    have := e.1
    cases a <;> cases b <;> simp at this <;> rfl
  | .int a, y, l, m, h, e => by
    cases y <;> simp only [PySem.W.alike] at h <;> first | cases h | skip
    simp only [PySem.W.keyToks, List.cons_append, List.nil_append, List.cons.injEq, Sum.inl.injEq] at e
    exact ⟨by rw [e.1], e.2⟩
  | .str a, y, l, m, h, e => by
    cases y <;> simp only [PySem.W.alike] at h <;> first | cases h | skip
    simp only [PySem.W.keyToks, List.cons_append, List.nil_append, List.cons.injEq, Sum.inr.injEq] at e
    exact ⟨by rw [PySem.W.str_of_cps e.1], e.2⟩
  | .list xs, y, l, m, h, e => by
    cases y <;> simp only [PySem.W.alike] at h <;> first | cases h | skip
    simp only [PySem.W.keyToks] at e
    obtain ⟨h1, h2⟩ := toks_injs _ _ _ _ h e
    exact ⟨by rw [h1], h2⟩
  | .tuple xs, y, l, m, h, e => by
    cases y <;> simp only [PySem.W.alike] at h <;> first | cases h | skip
    simp only [PySem.W.keyToks] at e
    obtain ⟨h1, h2⟩ := toks_injs _ _ _ _ h e
    exact ⟨by rw [h1], h2⟩
  | .dict _, y, l, m, h, e => by
    cases y <;> simp only [PySem.W.alike] at h <;> cases h
theorem toks_injs : ∀ (xs ys : List D) (l m : List (Int ⊕ List Nat)), PySem.W.alikeAll xs ys = true → PySem.W.keyToksAll xs ++ l = PySem.W.keyToksAll ys ++ m → xs = ys ∧ l = m
  | [], [], l, m, _, e => by
    simp only [PySem.W.keyToksAll, List.cons_append, List.nil_append, List.cons.injEq, true_and] at e
    exact ⟨rfl, e⟩
  | [], _ :: _, l, m, _, e => by
    simp only [PySem.W.keyToksAll, List.cons_append, List.nil_append, List.cons.injEq, Sum.inl.injEq] at e
    omega
  | _ :: _, [], l, m, _, e => by
    simp only [PySem.W.keyToksAll, List.cons_append, List.nil_append, List.cons.injEq, Sum.inl.injEq] at e
    omega
  | x :: xs, y :: ys, l, m, h, e => by
    obtain ⟨h1, h2⟩ := PySem.W.alike_all_cons h
    simp only [PySem.W.keyToksAll, List.cons_append, List.append_assoc, List.cons.injEq, true_and] at e
    obtain ⟨e1, e2⟩ := toks_inj x y _ _ h1 e
    obtain ⟨e3, e4⟩ := toks_injs xs ys _ _ h2 e2
    exact ⟨by rw [e1, e3], e4⟩
end
/-! ### the order -/
abbrev leA (a b : D) : Bool := PySem.W.dataLe false id a b
theorem leA_eq (a b : D) : leA a b = !PySem.W.dataLt b a := rfl
theorem leA_total : PySem.W.TotalLe leA := PySem.W.sortLe_total _ _ _
theorem leA_anti {a b : D} (h : PySem.W.alike a b = true) (h1 : leA a b = true) (h2 : leA b a = true) : a = b := by
  rw [leA_eq, Bool.not_eq_true'] at h1 h2
  have z := PyProof.Rows.lex_total (O := itemOrd) _ _ h2 h1
  exact (toks_inj a b [] [] h (by rw [z])).1
theorem srtA_pairwise (xs : List D) : (srt xs).Pairwise fun a b => leA a b = true := PySem.W.sort_pairwise leA_total xs
theorem srtA_perm {xs ys : List D} (ha : ∀ x ∈ xs, ∀ y ∈ xs, PySem.W.alike x y = true) (h : xs.Perm ys) : srt xs = srt ys := by
  have hp : (srt xs).Perm (srt ys) := (List.mergeSort_perm _ _).trans (h.trans (List.mergeSort_perm _ _).symm)
  refine List.Perm.eq_of_pairwise (le := fun a b => leA a b = true) (fun a b ha' hb' h1 h2 => ?_) (srtA_pairwise _) (srtA_pairwise _) hp
  exact leA_anti (ha a (List.mem_mergeSort.mp ha') b (h.mem_iff.mpr (List.mem_mergeSort.mp hb'))) h1 h2
theorem srtA_map {α : Type} (f : α → D) (xs : List α) : ∃ ys : List α, ys.Perm xs ∧ srt (xs.map f) = ys.map f := by
  refine ⟨xs.mergeSort fun a b => leA (f a) (f b), List.mergeSort_perm _ _, ?_⟩
  unfold srt
  exact (PySem.W.sort_maps f fun a _ b _ => rfl).symm
/-! ### keys -/
theorem eqv_key {a b : D} (ha : keyOk a = true) (hb : keyOk b = true) : (PyData.eqv a b = true ↔ a = b) := by
  obtain ⟨k, rfl, _⟩ := keyOk_key ha
  obtain ⟨l, rfl, _⟩ := keyOk_key hb
  rw [eqv_dec, decide_eq_true_eq]
  constructor
  · intro h; rw [h]
  · intro h
    have := eqv_dec (.tup k) (.tup l)
    rw [h] at this
    have h2 := eqv_dec (.tup l) (.tup l)
    rw [h2] at this
    simpa using this.symm
theorem eqv_key_false {a b : D} (ha : keyOk a = true) (hb : keyOk b = true) (h : a ≠ b) : PyData.eqv a b = false := by
  rw [← Bool.not_eq_true]
  exact fun z => h ((eqv_key ha hb).mp z)
theorem eqv_key_self {a : D} (ha : keyOk a = true) : PyData.eqv a a = true := (eqv_key ha ha).mpr rfl
theorem keyOk_tup {a : D} (h : keyOk a = true) : ∃ xs, a = .tuple xs := by
  unfold keyOk at h
  split at h
  · exact ⟨_, rfl⟩
  · cases h
/-! ### bags -/
abbrev KC := D × Int
def pr (p : KC) : D := .tuple [p.1, .int p.2]
def dk (ps : List KC) : List (D × D) := ps.map fun p => (p.1, .int p.2)
open Classical in
noncomputable def kcn (ps : List KC) (k : D) : Int := (ps.map fun p => if p.1 = k then p.2 else 0).sum
theorem kcn_nil (k : D) : kcn [] k = 0 := rfl
open Classical in
theorem kcn_cons (p : KC) (ps : List KC) (k : D) : kcn (p :: ps) k = (if p.1 = k then p.2 else 0) + kcn ps k := by
  unfold kcn
  rw [List.map_cons, List.sum_cons]
theorem kcn_append (ps qs : List KC) (k : D) : kcn (ps ++ qs) k = kcn ps k + kcn qs k := by
  unfold kcn
  rw [List.map_append, List.sum_append]
theorem sum_perm : ∀ {xs ys : List Int}, xs.Perm ys → xs.sum = ys.sum := by
  intro xs ys h
  induction h with
  | nil => rfl
  | cons _ _ ih => rw [List.sum_cons, List.sum_cons, ih]
  | swap => simp only [List.sum_cons]; omega
  | trans _ _ h1 h2 => exact h1.trans h2
theorem kcn_perm {ps qs : List KC} (h : ps.Perm qs) (k : D) : kcn ps k = kcn qs k := by
  unfold kcn
  exact sum_perm (h.map _)
theorem kcn_out {ps : List KC} {k : D} (h : k ∉ ps.map Prod.fst) : kcn ps k = 0 := by
  induction ps with
  | nil => rfl
  | cons p ps ih =>
    rw [List.map_cons, List.mem_cons, not_or] at h
    rw [kcn_cons, if_neg (fun e => h.1 e.symm), ih h.2]
    rfl
theorem kcn_mem {ps : List KC} (hn : (ps.map Prod.fst).Nodup) {p : KC} (h : p ∈ ps) : kcn ps p.1 = p.2 := by
  induction ps with
  | nil => cases h
  | cons q ps ih =>
    rw [List.map_cons, List.nodup_cons] at hn
    rw [kcn_cons]
    rcases List.mem_cons.mp h with rfl | h
    · rw [if_pos rfl, kcn_out hn.1]
      omega
    · rw [if_neg, ih hn.2 h]
      · omega
      · intro e
        exact hn.1 (e ▸ List.mem_map_of_mem h)
theorem kcn_in {ps : List KC} {k : D} (h : kcn ps k ≠ 0) : ∃ c, (k, c) ∈ ps := by
  by_cases hk : k ∈ ps.map Prod.fst
  · obtain ⟨p, hp, rfl⟩ := List.mem_map.mp hk
    exact ⟨p.2, hp⟩
  · exact absurd (kcn_out hk) h
structure Bag (G : D → Prop) (ps : List KC) : Prop where
  good : ∀ p ∈ ps, G p.1
  nd : (ps.map Prod.fst).Nodup
def Pos (ps : List KC) : Prop := ∀ p ∈ ps, 1 ≤ p.2
theorem Bag.perm {G : D → Prop} {ps qs : List KC} (h : Bag G ps) (hp : ps.Perm qs) : Bag G qs := ⟨fun p hpp => h.good p (hp.mem_iff.mpr hpp), (hp.map _).nodup_iff.mp h.nd⟩
theorem Pos.perm {ps qs : List KC} (h : Pos ps) (hp : ps.Perm qs) : Pos qs := fun p hpp => h p (hp.mem_iff.mpr hpp)
theorem nodup_of_map {α β : Type} (f : α → β) : ∀ {l : List α}, (l.map f).Nodup → l.Nodup
  | [], _ => List.nodup_nil
  | x :: l, h => by
    rw [List.map_cons, List.nodup_cons] at h
    exact List.nodup_cons.mpr ⟨fun hx => h.1 (List.mem_map_of_mem hx), nodup_of_map f h.2⟩
theorem bag_ext {G G' : D → Prop} {ps qs : List KC} (h1 : Bag G ps) (p1 : Pos ps) (h2 : Bag G' qs) (p2 : Pos qs) (h : ∀ k, kcn ps k = kcn qs k) : ps.Perm qs := by
  have key : ∀ {G G' : D → Prop} {ps qs : List KC}, Bag G ps → Pos ps → Bag G' qs → (∀ k, kcn ps k = kcn qs k) → ∀ p ∈ ps, p ∈ qs := by
    intro G G' ps qs h1 p1 h2 h p hp
    have e := kcn_mem h1.nd hp
    have hpos := p1 p hp
    obtain ⟨c, hc⟩ := kcn_in (ps := qs) (k := p.1) (by rw [← h, e]; omega)
    have e2 := kcn_mem h2.nd hc
    simp only at e2
    rw [← h, e] at e2
    rw [show p = (p.1, c) by rw [← e2]]
    exact hc
  exact (List.perm_ext_iff_of_nodup (nodup_of_map _ h1.nd) (nodup_of_map _ h2.nd)).mpr fun p => ⟨key h1 p1 h2 h p, key h2 p2 h1 (fun k => (h k).symm) p⟩
/-- what is asked of the keys -/
structure Keys (G : D → Prop) : Prop where
  key : ∀ a, G a → keyOk a = true
  alike : ∀ a b, G a → G b → PySem.W.alike a b = true
  nd : ∀ a, G a → Nd 50 a
section
variable {G : D → Prop} (hG : Keys G)
include hG
theorem pr_alike {p q : KC} (hp : G p.1) (hq : G q.1) : PySem.W.alike (pr p) (pr q) = true := by
  unfold pr
  simp only [PySem.W.alike, PySem.W.alikeAll, hG.alike _ _ hp hq, Bool.and_true]
theorem pr_nd {p : KC} (hp : G p.1) : Nd 51 (pr p) := by
  unfold pr
  refine nd_tuple fun x hx => ?_
  simp only [List.mem_cons, List.not_mem_nil, or_false] at hx
  rcases hx with rfl | rfl
  · exact hG.nd _ hp
  · exact nd_int
theorem prs_alike {ps : List KC} (h : ∀ p ∈ ps, G p.1) : ∀ x ∈ ps.map pr, ∀ y ∈ ps.map pr, PySem.W.alike x y = true := by
  intro x hx y hy
  obtain ⟨p, hp, rfl⟩ := List.mem_map.mp hx
  obtain ⟨q, hq, rfl⟩ := List.mem_map.mp hy
  exact pr_alike hG (h p hp) (h q hq)
theorem prs_srtOk {ps : List KC} (h : ∀ p ∈ ps, G p.1) : srtOk (ps.map pr) = true := by
  unfold srtOk alikeL
  simp only [Bool.and_eq_true, List.all_eq_true, Bool.or_eq_true]
  refine ⟨⟨prs_alike hG h, .inl (.inl fun x hx => ?_)⟩, fun x hx => ?_⟩
  · obtain ⟨p, hp, rfl⟩ := List.mem_map.mp hx
    rfl
  · obtain ⟨p, hp, rfl⟩ := List.mem_map.mp hx
    exact (pr_nd hG (h p hp)).eqOk (by omega)
theorem prs_sort {ps : List KC} (h : ∀ p ∈ ps, G p.1) : sortL (ps.map pr) = mok (.list (srt (ps.map pr))) := by
  unfold sortL
  rw [if_pos]
  refine ⟨prs_srtOk hG h, ?_⟩
  rw [List.all_eq_true]
  intro x hx
  obtain ⟨p, hp, rfl⟩ := List.mem_map.mp hx
  rfl
omit hG in
theorem prs_plain (ps : List KC) : plainP (ps.map pr) = true := by
  unfold plainP
  rw [List.all_eq_true]
  intro x hx
  obtain ⟨p, hp, rfl⟩ := List.mem_map.mp hx
  unfold pr
  simp only [fmk_int2, Bool.not_false]
omit hG in
theorem items_dk (ps : List KC) : itemsD (dk ps) = ps.map pr := by
  unfold itemsD dk
  rw [List.map_map]
  rfl
theorem sortItems_dk {ps : List KC} (h : ∀ p ∈ ps, G p.1) : sortItems (.dict (dk ps)) = mok (.list (srt (ps.map pr))) := by
  unfold sortItems
  simp only
  rw [items_dk, if_pos ⟨prs_srtOk hG h, prs_plain ps⟩]
omit hG in
theorem asItems_dk (ps : List KC) : asItems (.dict (dk ps)) = mok (ps.map pr) := by
  unfold asItems
  simp only
  rw [items_dk, if_pos (prs_plain ps)]
theorem prt_pr {p : KC} (hp : G p.1) : prt (pr p) = some p.1 := by
  obtain ⟨xs, e⟩ := keyOk_tup (hG.key _ hp)
  unfold pr
  rw [e]
  rfl
theorem prs_fmk : ∀ {ps : List KC}, Bag G ps → fmk (ps.map pr) = true
  | [], _ => rfl
  | p :: ps, h => by
    have hn := h.nd
    rw [List.map_cons, List.nodup_cons] at hn
    have hp := h.good p List.mem_cons_self
    have hr : ∀ q ∈ ps, G q.1 := fun q hq => h.good q (List.mem_cons_of_mem _ hq)
    rw [List.map_cons, fmk, prt_pr hG hp]
    simp only [Bool.and_eq_true, List.all_eq_true]
    refine ⟨prs_fmk ⟨hr, hn.2⟩, fun x hx => ?_⟩
    obtain ⟨q, hq, rfl⟩ := List.mem_map.mp hx
    rw [prt_pr hG (hr q hq)]
    simp only
    rw [eqv_key_false (hG.key _ hp) (hG.key _ (hr q hq)) (fun e => hn.1 (e ▸ List.mem_map_of_mem hq))]
    rfl
theorem prs_pairs : ∀ {ps : List KC}, (∀ p ∈ ps, G p.1) → pairsD (ps.map pr) = some (dk ps)
  | [], _ => rfl
  | p :: ps, h => by
    rw [List.map_cons]
    unfold pr
    rw [pairsD, if_pos (hG.key _ (h p List.mem_cons_self))]
    have := prs_pairs fun q hq => h q (List.mem_cons_of_mem _ hq)
    unfold pr at this
    rw [this]
    rfl
theorem find_none {ps : List KC} (h : ∀ p ∈ ps, G p.1) {k : D} (hk : G k) (hn : k ∉ ps.map Prod.fst) : findD (dk ps) k = none := by
  unfold findD dk
  rw [Option.map_eq_none_iff, List.find?_eq_none]
  intro x hx
  obtain ⟨p, hp, rfl⟩ := List.mem_map.mp hx
  simp only [Bool.not_eq_true]
  exact eqv_key_false (hG.key _ (h p hp)) (hG.key _ hk) fun e => hn (e ▸ List.mem_map_of_mem hp)
theorem find_some {ps : List KC} (h : ∀ p ∈ ps, G p.1) (hn : (ps.map Prod.fst).Nodup) {p : KC} (hp : p ∈ ps) : findD (dk ps) p.1 = some (.int p.2) := by
  induction ps with
  | nil => cases hp
  | cons q ps ih =>
    rw [List.map_cons, List.nodup_cons] at hn
    have hq := h q List.mem_cons_self
    unfold findD dk
    rw [List.map_cons]
    rcases List.mem_cons.mp hp with rfl | hp
    · rw [List.find?_cons_of_pos (p := fun z : D × D => PyData.eqv z.1 p.1) (a := (p.1, PyData.int p.2)) (eqv_key_self (hG.key _ hq))]
      rfl
    · have hpg := h p (List.mem_cons_of_mem _ hp)
      rw [List.find?_cons_of_neg]
      · exact ih (fun r hr => h r (List.mem_cons_of_mem _ hr)) hn.2 hp
      · simp only [Bool.not_eq_true]
        exact eqv_key_false (hG.key _ hq) (hG.key _ hpg) fun e => hn.1 (e ▸ List.mem_map_of_mem hp)
theorem getX_dk {ps : List KC} (h : Bag G ps) {k : D} (hk : G k) : getX (dk ps) [k, .int 0] = mok (.int (kcn ps k)) := by
  unfold getX
  simp only
  rw [if_pos (hG.key _ hk)]
  by_cases hm : k ∈ ps.map Prod.fst
  · obtain ⟨p, hp, rfl⟩ := List.mem_map.mp hm
    rw [find_some hG h.good h.nd hp, kcn_mem h.nd hp]
    rfl
  · rw [find_none hG h.good hk hm, kcn_out hm]
    rfl
/-- an entry written: the same in the rest -/
theorem put_dk {ps : List KC} (h : Bag G ps) {k : D} (hk : G k) (c : Int) : ∃ qs, putD (dk ps) k (.int c) = dk qs ∧ Bag G qs ∧ qs.length ≤ ps.length + 1 ∧ (∀ j, j ≠ k → kcn qs j = kcn ps j) ∧ kcn qs k = c ∧ (∀ p ∈ qs, p ∈ ps ∨ p = (k, c)) ∧ (k ∈ ps.map Prod.fst → qs.map Prod.fst = ps.map Prod.fst) := by
  by_cases hm : k ∈ ps.map Prod.fst
  · obtain ⟨p, hp, rfl⟩ := List.mem_map.mp hm
    have e0 := find_some hG h.good h.nd hp
    classical
    refine ⟨ps.map fun q => if q.1 = p.1 then (q.1, c) else q, ?_, ?_, ?_, ?_, ?_, ?_, ?_⟩
    · unfold putD
      rw [e0]
      show List.map _ (dk ps) = _
      unfold dk
      rw [List.map_map, List.map_map]
      refine List.map_congr_left fun q hq => ?_
      simp only [Function.comp]
      by_cases e : q.1 = p.1
      · rw [if_pos ((eqv_key (hG.key _ (h.good q hq)) (hG.key _ hk)).mpr e), if_pos e]
      · rw [if_neg (by rw [eqv_key_false (hG.key _ (h.good q hq)) (hG.key _ hk) e]; simp), if_neg e]
    · have e : (ps.map fun q => if q.1 = p.1 then (q.1, c) else q).map Prod.fst = ps.map Prod.fst := by
        rw [List.map_map]
        refine List.map_congr_left fun q hq => ?_
        simp only [Function.comp]
        split <;> rfl
      refine ⟨fun r hr => ?_, by rw [e]; exact h.nd⟩
      obtain ⟨q, hq, rfl⟩ := List.mem_map.mp hr
      split
      · exact h.good q hq
      · exact h.good q hq
    · rw [List.length_map]; omega
    · intro j hj
      unfold kcn
      rw [List.map_map]
      congr 1
      refine List.map_congr_left fun q hq => ?_
      simp only [Function.comp]
      by_cases e : q.1 = p.1
      · rw [if_pos e, if_neg (fun z => hj (z.symm.trans e)), if_neg (fun z => hj (z.symm.trans e))]
      · rw [if_neg e]
    · have e : (ps.map fun q => if q.1 = p.1 then (q.1, c) else q).map Prod.fst = ps.map Prod.fst := by
        rw [List.map_map]
        refine List.map_congr_left fun q hq => ?_
        simp only [Function.comp]
        split <;> rfl
      have := kcn_mem (ps := ps.map fun q => if q.1 = p.1 then (q.1, c) else q) (by rw [e]; exact h.nd) (p := (p.1, c)) (List.mem_map.mpr ⟨p, hp, by rw [if_pos rfl]⟩)
      exact this
    · intro r hr
      obtain ⟨q, hq, rfl⟩ := List.mem_map.mp hr
      split
      · rename_i e
        right; rw [e]
      · exact .inl hq
    · intro _
      rw [List.map_map]
      refine List.map_congr_left fun q hq => ?_
      simp only [Function.comp]
      split <;> rfl
  · refine ⟨ps ++ [(k, c)], ?_, ?_, ?_, ?_, ?_, ?_, fun z => absurd z hm⟩
    · unfold putD
      rw [find_none hG h.good hk hm]
      unfold dk
      rw [List.map_append]
      rfl
    · refine ⟨fun r hr => ?_, ?_⟩
      · rcases List.mem_append.mp hr with hr | hr
        · exact h.good r hr
        · rw [List.mem_singleton.mp hr]; exact hk
      · rw [List.map_append, List.nodup_append]
        refine ⟨h.nd, by simp, fun a ha b hb e => ?_⟩
        rw [List.map_singleton, List.mem_singleton] at hb
        subst e
        simp only at hb
        exact hm (hb ▸ ha)
    · simp
    · intro j hj
      rw [kcn_append, kcn_cons, if_neg (fun z => hj z.symm), kcn_nil]
      omega
    · rw [kcn_append, kcn_cons, if_pos rfl, kcn_nil, kcn_out hm]
      omega
    · intro r hr
      rcases List.mem_append.mp hr with hr | hr
      · exact .inl hr
      · exact .inr (List.mem_singleton.mp hr)
theorem dictL_dk : ∀ (qs : List KC) {ps : List KC}, Bag G (ps ++ qs) → (dk qs).foldl (fun acc p => putD acc p.1 p.2) (dk ps) = dk (ps ++ qs)
  | [], ps, _ => by rw [List.append_nil]; rfl
  | q :: qs, ps, h => by
    have hn := h.nd
    rw [List.map_append, List.nodup_append] at hn
    have hm : q.1 ∉ ps.map Prod.fst := fun hq => hn.2.2 _ hq q.1 (by simp) rfl
    have h2 : Bag G ((ps ++ [q]) ++ qs) := by rw [List.append_assoc]; exact h
    have := dictL_dk qs h2
    rw [List.append_assoc] at this
    show (dk qs).foldl _ (putD (dk ps) q.1 (.int q.2)) = _
    have e : putD (dk ps) q.1 (.int q.2) = dk (ps ++ [q]) := by
      unfold putD
      rw [find_none hG (fun p hp => h.good p (List.mem_append_left _ hp)) (h.good q (by simp)) hm]
      unfold dk
      rw [List.map_append]
      rfl
    rw [e]
    exact this
theorem dictD_dk {ps : List KC} (h : Bag G ps) : dictD [.tuple (ps.map pr)] = mok (.dict (dk ps)) := by
  unfold dictD
  simp only [prs_pairs hG h.good, prs_fmk hG h, if_true]
  unfold dictL
  have := dictL_dk hG ps (ps := []) h
  exact congrArg (fun z => mok (PyData.dict z)) this
end
end DL

/-! Forms as data, counts of any size. -/
namespace DL
open PySem PySem.Spec PyProof.Rows L2
/-! ### forms -/
mutual
def Form : Nat → D → Prop
  | 0, d => d = .tuple []
  | n + 1, d => ∃ ps : List D, d = .tuple ps ∧ ∀ p ∈ ps, ∃ it c, p = .tuple [it, .int c] ∧ 1 ≤ c ∧ True ∧ Item n it
def Item : Nat → D → Prop
  | n, it => ∃ x : List Nat, 1 ≤ x.length ∧ (it = .tuple [.str "any", .str (T x)] ∨ ∃ parts : List D, it = .tuple [.str "of", .str (T x), .tuple parts] ∧ ∀ p ∈ parts, Form n p)
end

theorem Form.mono : ∀ (n : Nat) (d : D), Form n d → Form (n + 1) d
  | 0, d, h => by
    unfold Form at h ⊢
    exact ⟨[], h, by simp⟩
  | n + 1, d, h => by
    unfold Form at h ⊢
    obtain ⟨ps, rfl, hp⟩ := h
    refine ⟨ps, rfl, fun p hpp => ?_⟩
    obtain ⟨it, c, rfl, h1, h2, hi⟩ := hp p hpp
    refine ⟨it, c, rfl, h1, h2, ?_⟩
    unfold Item at hi ⊢
    obtain ⟨x, hx, h | ⟨parts, rfl, h⟩⟩ := hi
    · exact ⟨x, hx, .inl h⟩
    · exact ⟨x, hx, .inr ⟨parts, rfl, fun q hq => Form.mono n q (h q hq)⟩⟩
theorem form_nd : ∀ (n : Nat) (d : D), Form n d → Nd (4 * n + 2) d
  | 0, d, h => by
    unfold Form at h
    subst h
    exact nd_tuple (n := 1) fun x hx => by cases hx
  | n + 1, d, h => by
    unfold Form at h
    obtain ⟨ps, rfl, hp⟩ := h
    show Nd (4 * n + 5 + 1) _
    refine nd_tuple fun p hpp => ?_
    obtain ⟨it, c, rfl, _, _, hi⟩ := hp p hpp
    show Nd (4 * n + 4 + 1) _
    refine nd_tuple fun q hq => ?_
    rcases List.mem_cons.mp hq with rfl | hq
    · unfold Item at hi
      obtain ⟨x, _, rfl | ⟨parts, rfl, h⟩⟩ := hi
      · show Nd (4 * n + 3 + 1) _
        refine nd_tuple fun r hr => ?_
        simp only [List.mem_cons, List.not_mem_nil, or_false] at hr
        rcases hr with rfl | rfl <;> exact nd_str
      · show Nd (4 * n + 3 + 1) _
        refine nd_tuple fun r hr => ?_
        simp only [List.mem_cons, List.not_mem_nil, or_false] at hr
        rcases hr with rfl | rfl | rfl
        · exact nd_str
        · exact nd_str
        · show Nd (4 * n + 2 + 1) _
          exact nd_tuple fun z hz => form_nd n z (h z hz)
    · rw [List.mem_singleton.mp hq]
      exact nd_int
/-! ### forms can be sorted -/
theorem alikes_cons {x y : D} {xs ys : List D} (h1 : PySem.W.alike x y = true) (h2 : PySem.W.alikeAll xs ys = true) : PySem.W.alikeAll (x :: xs) (y :: ys) = true := by
  rw [PySem.W.alikeAll, h1, h2]
  rfl
theorem alikes_of {P : D → Prop} (h : ∀ x y, P x → P y → PySem.W.alike x y = true) : ∀ {xs ys : List D}, (∀ x ∈ xs, P x) → (∀ y ∈ ys, P y) → PySem.W.alikeAll xs ys = true
  | [], _, _, _ => by simp [PySem.W.alikeAll]
  | _ :: _, [], _, _ => by simp [PySem.W.alikeAll]
  | x :: xs, y :: ys, hx, hy => alikes_cons (h x y (hx x List.mem_cons_self) (hy y List.mem_cons_self)) (alikes_of h (fun z hz => hx z (List.mem_cons_of_mem _ hz)) fun z hz => hy z (List.mem_cons_of_mem _ hz))
theorem alikes_nil (ys : List D) : PySem.W.alikeAll [] ys = true := by simp [PySem.W.alikeAll]
theorem alikes_nil' (xs : List D) : PySem.W.alikeAll xs [] = true := by cases xs <;> simp [PySem.W.alikeAll]
theorem alike_tup {xs ys : List D} (h : PySem.W.alikeAll xs ys = true) : PySem.W.alike (.tuple xs) (.tuple ys) = true := by rw [PySem.W.alike]; exact h
theorem alike_str (x y : Str) : PySem.W.alike (.str x) (.str y) = true := by simp [PySem.W.alike]
theorem alike_int (x y : Int) : PySem.W.alike (.int x) (.int y) = true := by simp [PySem.W.alike]
def AnyForm (d : D) : Prop := ∃ n, Form n d
def AnyItem (d : D) : Prop := ∃ n, Item n d
def AnyPair (d : D) : Prop := ∃ it c, d = .tuple [it, .int c] ∧ AnyItem it
theorem form_alike : ∀ (n : Nat) (x y : D), Form n x → AnyForm y → PySem.W.alike x y = true
  | 0, x, y, h, ⟨m, hy⟩ => by
    unfold Form at h
    subst h
    cases m with
    | zero => unfold Form at hy; subst hy; exact alike_tup (alikes_nil _)
    | succ m => unfold Form at hy; obtain ⟨ps, rfl, _⟩ := hy; exact alike_tup (alikes_nil _)
  | n + 1, x, y, h, ⟨m, hy⟩ => by
    unfold Form at h
    obtain ⟨ps, rfl, hp⟩ := h
    cases m with
    | zero => unfold Form at hy; subst hy; exact alike_tup (alikes_nil' _)
    | succ m =>
      unfold Form at hy
      obtain ⟨qs, rfl, hq⟩ := hy
      refine alike_tup ?_
      have key : ∀ (xs ys : List D), (∀ x ∈ xs, x ∈ ps) → (∀ y ∈ ys, y ∈ qs) → PySem.W.alikeAll xs ys = true := by
        intro xs
        induction xs with
        | nil => intro ys _ _; exact alikes_nil _
        | cons a as ih =>
          intro ys hx hy
          cases ys with
          | nil => exact alikes_nil' _
          | cons b bs =>
            refine alikes_cons ?_ (ih bs (fun z hz => hx z (List.mem_cons_of_mem _ hz)) fun z hz => hy z (List.mem_cons_of_mem _ hz))
            obtain ⟨it, c, rfl, _, _, hi⟩ := hp a (hx a List.mem_cons_self)
            obtain ⟨it2, c2, rfl, _, _, hi2⟩ := hq b (hy b List.mem_cons_self)
            refine alike_tup (alikes_cons ?_ (alikes_cons (alike_int _ _) (alikes_nil _)))
            unfold Item at hi hi2
            obtain ⟨x, _, rfl | ⟨parts, rfl, h⟩⟩ := hi
            · obtain ⟨x2, _, rfl | ⟨parts2, rfl, h2⟩⟩ := hi2
              · exact alike_tup (alikes_cons (alike_str _ _) (alikes_cons (alike_str _ _) (alikes_nil _)))
              · exact alike_tup (alikes_cons (alike_str _ _) (alikes_cons (alike_str _ _) (alikes_nil _)))
            · obtain ⟨x2, _, rfl | ⟨parts2, rfl, h2⟩⟩ := hi2
              · exact alike_tup (alikes_cons (alike_str _ _) (alikes_cons (alike_str _ _) (alikes_nil' _)))
              · refine alike_tup (alikes_cons (alike_str _ _) (alikes_cons (alike_str _ _) (alikes_cons (alike_tup ?_) (alikes_nil _))))
                have key2 : ∀ (xs ys : List D), (∀ x ∈ xs, x ∈ parts) → (∀ y ∈ ys, y ∈ parts2) → PySem.W.alikeAll xs ys = true := by
                  intro xs
                  induction xs with
                  | nil => intro ys _ _; exact alikes_nil _
                  | cons a as ih2 =>
                    intro ys hx hy
                    cases ys with
                    | nil => exact alikes_nil' _
                    | cons b bs =>
                      exact alikes_cons (form_alike n a b (h a (hx a List.mem_cons_self)) ⟨m, h2 b (hy b List.mem_cons_self)⟩) (ih2 bs (fun z hz => hx z (List.mem_cons_of_mem _ hz)) fun z hz => hy z (List.mem_cons_of_mem _ hz))
                exact key2 _ _ (fun _ h => h) fun _ h => h
      exact key _ _ (fun _ h => h) fun _ h => h
def Pair (n : Nat) (p : D) : Prop := ∃ it c, p = .tuple [it, .int c] ∧ 1 ≤ c ∧ True ∧ Item n it
theorem pair_form {n : Nat} {p : D} (h : Pair n p) : Form (n + 1) (.tuple [p]) := by
  unfold Form
  refine ⟨[p], rfl, fun q hq => ?_⟩
  rw [List.mem_singleton.mp hq]
  exact h
theorem pair_alike {n : Nat} {p q : D} (h1 : Pair n p) (h2 : Pair n q) : PySem.W.alike p q = true := by
  have := form_alike (n + 1) _ _ (pair_form h1) ⟨n + 1, pair_form h2⟩
  rw [PySem.W.alike, PySem.W.alikeAll] at this
  exact (Bool.and_eq_true _ _ ▸ this : _ ∧ _).1
theorem pair_nd {n : Nat} {p : D} (h : Pair n p) : Nd (4 * n + 5) p := by
  have := form_nd _ _ (pair_form h)
  obtain ⟨h1, h2⟩ := this
  refine ⟨by simpa [noD, noDs] using h1, ?_⟩
  simp only [PyData.depth, PyData.depthAll] at h2
  omega
theorem sort_pairs {n : Nat} {ps : List D} (h : ∀ p ∈ ps, Pair n p) (hn : n ≤ 10) : sortL ps = mok (.list (srt ps)) ∧ (srt ps).Perm ps := by
  refine ⟨?_, List.mergeSort_perm _ _⟩
  unfold sortL
  rw [if_pos]
  refine ⟨?_, ?_⟩
  · unfold srtOk alikeL
    simp only [Bool.and_eq_true, List.all_eq_true, Bool.or_eq_true]
    refine ⟨⟨fun x hx y hy => pair_alike (h x hx) (h y hy), .inl (.inl fun x hx => ?_)⟩, fun x hx => (pair_nd (h x hx)).eqOk (by omega)⟩
    obtain ⟨it, c, rfl, _⟩ := h x hx
    rfl
  · rw [List.all_eq_true]
    intro x hx
    obtain ⟨it, c, rfl, _⟩ := h x hx
    rfl
theorem form_of {n : Nat} {ps : List D} (h : ∀ p ∈ ps, Pair n p) : Form (n + 1) (.tuple ps) := by
  unfold Form
  exact ⟨ps, rfl, h⟩
theorem Form.up {n m : Nat} {d : D} (h : Form n d) (hm : n ≤ m) : Form m d := by
  have : ∀ k, Form (n + k) d := fun k => by
    induction k with
    | zero => exact h
    | succ k ih => exact Form.mono _ _ ih
  have := this (m - n)
  rwa [show n + (m - n) = m by omega] at this
theorem form_nil (n : Nat) : Form n (.tuple []) := by
  cases n with
  | zero => unfold Form; rfl
  | succ n => unfold Form; exact ⟨[], rfl, by simp⟩
theorem mem1 {P : D → Prop} {a : D} (h : P a) : ∀ x ∈ [a], P x := by
  intro x hx
  rw [List.mem_singleton.mp hx]
  exact h
theorem memc {P : D → Prop} {a : D} {l : List D} (h : P a) (h2 : ∀ x ∈ l, P x) : ∀ x ∈ a :: l, P x := by
  intro x hx
  rcases List.mem_cons.mp hx with rfl | hx
  · exact h
  · exact h2 x hx
theorem mem0 {P : D → Prop} : ∀ x ∈ ([] : List D), P x := by
  intro x hx
  cases hx
theorem flats_of : ∀ {xs : List D}, (∀ x ∈ xs, flat x = true) → flats xs = true
  | [], _ => rfl
  | x :: xs, h => by
    rw [flats, h x List.mem_cons_self, flats_of fun y hy => h y (List.mem_cons_of_mem _ hy)]
    rfl
mutual
theorem form_flat : ∀ (n : Nat) (d : D), Form n d → flat d = true
  | 0, d, h => by
    unfold Form at h
    subst h
    rfl
  | n + 1, d, h => by
    unfold Form at h
    obtain ⟨ps, rfl, hp⟩ := h
    rw [flat]
    exact flats_of fun p hpp => by
      obtain ⟨it, c, rfl, _, _, hi⟩ := hp p hpp
      have := item_flat n it hi
      simp [flat, flats, this]
theorem item_flat : ∀ (n : Nat) (d : D), Item n d → flat d = true
  | n, d, h => by
    unfold Item at h
    obtain ⟨x, _, rfl | ⟨parts, rfl, h⟩⟩ := h
    · rfl
    · have := flats_of fun p hp => form_flat n p (h p hp)
      simp [flat, flats, this]
end

/-! ### items as keys -/
theorem toKeys_of {n : Nat} : ∀ {xs : List D}, (∀ x ∈ xs, ∃ k, toKey x = some k ∧ k.depth ≤ n) → ∃ ks, toKeys xs = some ks ∧ NestedKey.depthAll ks ≤ n
  | [], _ => ⟨[], rfl, by simp [NestedKey.depthAll]⟩
  | x :: xs, h => by
    obtain ⟨k, h1, h2⟩ := h x List.mem_cons_self
    obtain ⟨ks, h3, h4⟩ := toKeys_of fun y hy => h y (List.mem_cons_of_mem _ hy)
    refine ⟨k :: ks, by rw [toKeys, h1, h3]; rfl, ?_⟩
    simp only [NestedKey.depthAll]
    omega
theorem toKey_tup {n : Nat} {xs : List D} (h : ∀ x ∈ xs, ∃ k, toKey x = some k ∧ k.depth ≤ n) : ∃ k, toKey (.tuple xs) = some k ∧ k.depth ≤ n + 1 := by
  obtain ⟨ks, h1, h2⟩ := toKeys_of h
  refine ⟨.tup ks, by rw [toKey, h1]; rfl, ?_⟩
  simp only [NestedKey.depth]
  omega
theorem toKey_str {n : Nat} (x : Str) : ∃ k, toKey (.str x) = some k ∧ k.depth ≤ n := ⟨.text x, rfl, by simp [NestedKey.depth]⟩
theorem toKey_int {n : Nat} (i : Int) : ∃ k, toKey (.int i) = some k ∧ k.depth ≤ n := ⟨.num i, rfl, by simp [NestedKey.depth]⟩
theorem form_key : ∀ (n : Nat) (d : D), Form n d → ∃ k, toKey d = some k ∧ k.depth ≤ 4 * n + 1
  | 0, d, h => by
    unfold Form at h
    subst h
    exact toKey_tup (n := 0) mem0
  | n + 1, d, h => by
    unfold Form at h
    obtain ⟨ps, rfl, hp⟩ := h
    show ∃ k, toKey _ = some k ∧ k.depth ≤ 4 * n + 4 + 1
    refine toKey_tup fun p hpp => ?_
    obtain ⟨it, c, rfl, _, _, hi⟩ := hp p hpp
    show ∃ k, toKey _ = some k ∧ k.depth ≤ 4 * n + 3 + 1
    refine toKey_tup (memc ?_ (mem1 (toKey_int c)))
    unfold Item at hi
    obtain ⟨x, _, rfl | ⟨parts, rfl, h⟩⟩ := hi
    · exact toKey_tup (n := 4 * n + 2) (memc (toKey_str _) (mem1 (toKey_str _)))
    · exact toKey_tup (n := 4 * n + 2) (memc (toKey_str _) (memc (toKey_str _) (mem1 (toKey_tup (n := 4 * n + 1) fun q hq => form_key n q (h q hq)))))
theorem item_keyOk {n : Nat} {it : D} (h : Item n it) (hn : n ≤ 1) : keyOk it = true := by
  have key : ∃ k, toKey it = some k ∧ k.depth ≤ 4 * n + 3 := by
    unfold Item at h
    obtain ⟨x, _, rfl | ⟨parts, rfl, h⟩⟩ := h
    · exact toKey_tup (n := 4 * n + 2) (memc (toKey_str _) (mem1 (toKey_str _)))
    · exact toKey_tup (n := 4 * n + 2) (memc (toKey_str _) (memc (toKey_str _) (mem1 (toKey_tup (n := 4 * n + 1) fun q hq => form_key n q (h q hq)))))
  obtain ⟨k, h1, h2⟩ := key
  have ht : ∃ xs, it = .tuple xs := by
    unfold Item at h
    obtain ⟨x, _, rfl | ⟨parts, rfl, _⟩⟩ := h <;> exact ⟨_, rfl⟩
  obtain ⟨xs, rfl⟩ := ht
  unfold keyOk
  simp only [h1]
  exact decide_eq_true (by omega)
theorem item_alike {n m : Nat} {x y : D} (h : Item n x) (h2 : Item m y) : PySem.W.alike x y = true := by
  have f1 : Form (n + 1) (.tuple [.tuple [x, .int 1]]) := pair_form ⟨x, 1, rfl, by omega, trivial, h⟩
  have f2 : Form (m + 1) (.tuple [.tuple [y, .int 1]]) := pair_form ⟨y, 1, rfl, by omega, trivial, h2⟩
  have := form_alike _ _ _ f1 ⟨_, f2⟩
  simp only [PySem.W.alike, PySem.W.alikeAll, Bool.and_true] at this
  exact this
theorem item_nd {n : Nat} {x : D} (h : Item n x) : Nd (4 * n + 4) x := by
  have := pair_nd (n := n) (p := .tuple [x, .int 1]) ⟨x, 1, rfl, by omega, trivial, h⟩
  obtain ⟨h1, h2⟩ := this
  refine ⟨by simpa [noD, noDs] using h1, ?_⟩
  simp only [PyData.depth, PyData.depthAll] at h2
  omega
theorem keys_item {n : Nat} (hn : n ≤ 1) : Keys (Item n) where
  key := fun a h => item_keyOk h hn
  alike := fun a b h1 h2 => item_alike h1 h2
  nd := fun a h => (item_nd h).mono (by omega)
/-! ### zip of a datum with itself -/
theorem prt_noD {x k : D} (h : prt x = some k) (hx : noD x = true) : noD k = true := by
  unfold prt at h
  split at h
  · cases h
    simp only [noD, noDs, Bool.and_eq_true] at hx
    simpa only [noD] using hx.1
  · cases h
theorem fmk_self {x : D} (hx : noD x = true) : fmk [x, x] = false := by
  unfold fmk
  cases e : prt x with
  | none => rfl
  | some k =>
    simp only [List.all_cons, List.all_nil, e, eqv_self k (prt_noD e hx)]
    simp
theorem plain_self : ∀ {xs : List D}, (∀ x ∈ xs, noD x = true) → plainP (zipL xs xs) = true
  | [], _ => rfl
  | x :: xs, h => by
    have := plain_self fun y hy => h y (List.mem_cons_of_mem _ hy)
    unfold plainP at this ⊢
    show (_ && _) = true
    rw [Bool.and_eq_true]
    refine ⟨?_, this⟩
    simp only [fmk_self (h x List.mem_cons_self), Bool.not_false]
/-! ### forms of bags -/
def formD (ps : List KC) : D := .tuple (srt (ps.map pr))
theorem formD_nil : formD [] = .tuple [] := by
  unfold formD srt
  rw [List.map_nil, List.mergeSort_nil]
theorem formD_raw (ps : List KC) : ∃ qs : List KC, qs.Perm ps ∧ formD ps = .tuple (qs.map pr) := by
  obtain ⟨qs, h1, h2⟩ := srtA_map pr ps
  exact ⟨qs, h1, by unfold formD; rw [h2]⟩
section
variable {G : D → Prop} (hG : Keys G)
include hG
theorem formD_perm {ps qs : List KC} (h : ∀ p ∈ ps, G p.1) (hp : ps.Perm qs) : formD ps = formD qs := by
  unfold formD
  rw [srtA_perm (prs_alike hG h) (hp.map pr)]
theorem formD_ext {ps qs : List KC} (h1 : Bag G ps) (p1 : Pos ps) (h2 : Bag G qs) (p2 : Pos qs) (h : ∀ k, kcn ps k = kcn qs k) : formD ps = formD qs := formD_perm hG h1.good (bag_ext h1 p1 h2 p2 h)
theorem pr_lt {p q : KC} (hp : G p.1) (hq : G q.1) (hne : p.1 ≠ q.1) : PySem.W.dataLt (pr p) (pr q) = PySem.W.dataLt p.1 q.1 := by
  have e := (PySem.W.toks_eqv p.1 q.1 (hG.alike _ _ hp hq)).2 (eqv_key_false (hG.key _ hp) (hG.key _ hq) hne)
  unfold PySem.W.dataLt pr
  simp only [PySem.W.keyToks, PySem.W.keyToksAll]
  rw [PyProof.Rows.lex_self (O := itemOrd)]
  exact e _ _
/-- a change of the counts alone keeps the order -/
theorem formD_map {ps : List KC} (h : Bag G ps) {f : KC → KC} (hf : ∀ p, (f p).1 = p.1) {qs : List KC} (hq : qs.Perm ps) (e : formD ps = .tuple (qs.map pr)) : .tuple ((qs.map f).map pr) = formD (ps.map f) := by
  unfold formD at e ⊢
  injection e with e
  congr 1
  have hbq : Bag G qs := h.perm hq.symm
  have s1 : (qs.map pr).Pairwise fun a b => leA a b = true := by rw [← e]; exact srtA_pairwise _
  have hnd : qs.Pairwise fun a b => a.1 ≠ b.1 := List.pairwise_map.mp hbq.nd
  have s2 : ((qs.map f).map pr).Pairwise fun a b => leA a b = true := by
    rw [List.map_map, List.pairwise_map]
    rw [List.pairwise_map] at s1
    refine ((s1.and hnd).imp_of_mem (S := fun a b => leA ((pr ∘ f) a) ((pr ∘ f) b) = true) fun {a b} ha hb hab => ?_)
    have g1 := hbq.good a ha
    have g2 := hbq.good b hb
    have h1 := hab.1
    simp only [leA_eq, Function.comp] at h1 ⊢
    rw [pr_lt hG g2 g1 (fun z => hab.2 z.symm)] at h1
    rw [pr_lt hG (by rw [hf]; exact g2) (by rw [hf]; exact g1) (by rw [hf, hf]; exact fun z => hab.2 z.symm), hf, hf]
    exact h1
  have hp : ((qs.map f).map pr).Perm (srt ((ps.map f).map pr)) := ((hq.map f).map pr).trans (List.mergeSort_perm _ _).symm
  refine List.Perm.eq_of_pairwise (le := fun a b => leA a b = true) (fun a b ha hb h1 h2 => ?_) s2 (srtA_pairwise _) hp
  have hg : ∀ p ∈ qs.map f, G p.1 := fun p hpp => by
    obtain ⟨r, hr, rfl⟩ := List.mem_map.mp hpp
    rw [hf]
    exact hbq.good r hr
  exact leA_anti (prs_alike hG hg a ha b (hp.mem_iff.mpr hb)) h1 h2
end
/-! ### counts of a row -/
def bagOf (items : List D) (cs : List Int) : List KC := (items.zip cs).filter fun p => decide (0 < p.2)
theorem kcn_filter {l : List KC} (h : ∀ p ∈ l, 0 ≤ p.2) (k : D) : kcn (l.filter fun p => decide (0 < p.2)) k = kcn l k := by
  induction l with
  | nil => rfl
  | cons p l ih =>
    have h1 := ih fun q hq => h q (List.mem_cons_of_mem _ hq)
    have h2 := h p List.mem_cons_self
    by_cases z : 0 < p.2
    · rw [List.filter_cons_of_pos (p := fun p : KC => decide (0 < p.2)) (a := p) (decide_eq_true z), kcn_cons, kcn_cons, h1]
    · rw [List.filter_cons_of_neg (p := fun p : KC => decide (0 < p.2)) (a := p) (by simpa using z), kcn_cons, h1]
      split <;> omega
theorem zip_good {G : D → Prop} {items : List D} {cs : List Int} (h : ∀ it ∈ items, G it) : ∀ p ∈ items.zip cs, G p.1 := fun p hp => h _ (List.of_mem_zip (a := p.1) (b := p.2) hp).1
theorem zip_nodup {items : List D} (cs : List Int) (h : items.Nodup) : ((items.zip cs).map Prod.fst).Nodup := by
  induction items generalizing cs with
  | nil => simp
  | cons it items ih =>
    cases cs with
    | nil => simp
    | cons c cs =>
      rw [List.nodup_cons] at h
      rw [List.zip_cons_cons, List.map_cons, List.nodup_cons]
      refine ⟨fun hm => ?_, ih cs h.2⟩
      obtain ⟨p, hp, e⟩ := List.mem_map.mp hm
      simp only at e
      exact h.1 (e ▸ (List.of_mem_zip (a := p.1) (b := p.2) hp).1)
theorem bagOf_bag {G : D → Prop} {items : List D} (cs : List Int) (h : ∀ it ∈ items, G it) (hn : items.Nodup) : Bag G (bagOf items cs) := ⟨fun p hp => zip_good h p (List.mem_filter.mp hp).1, (zip_nodup cs hn).sublist ((List.filter_sublist).map _)⟩
theorem bagOf_bag' {G : D → Prop} {items : List D} {cs : List Int} (h : ∀ it ∈ items, G it) : ∀ p ∈ bagOf items cs, G p.1 := fun p hp => zip_good h p (List.mem_filter.mp hp).1
theorem bagOf_pos (items : List D) (cs : List Int) : Pos (bagOf items cs) := fun p hp => by
  have := of_decide_eq_true (List.mem_filter.mp hp).2
  omega
theorem bagOf_len (items : List D) (cs : List Int) : (bagOf items cs).length ≤ items.length := by
  unfold bagOf
  refine Nat.le_trans (List.length_filter_le _ _) ?_
  rw [List.length_zip]
  omega
theorem kcn_bagOf {items : List D} {cs : List Int} (h : ∀ c ∈ cs, 0 ≤ c) (k : D) : kcn (bagOf items cs) k = kcn (items.zip cs) k := kcn_filter (fun p hp => h _ (List.of_mem_zip (a := p.1) (b := p.2) hp).2) k
theorem kcn_zip2 (f : Int → Int → Int) (hf : ∀ a b c d, f (a + c) (b + d) = f a b + f c d) (h0 : f 0 0 = 0) (k : D) : ∀ (items : List D) (cs ds : List Int), cs.length = ds.length → kcn (items.zip (List.zipWith f cs ds)) k = f (kcn (items.zip cs) k) (kcn (items.zip ds) k)
  | [], _, _, _ => by simp only [List.zip_nil_left, kcn_nil, h0]
  | _ :: _, [], [], _ => by simp only [List.zip_nil_right, List.zipWith_nil_left, kcn_nil, h0]
  | it :: items, c :: cs, d :: ds, h => by
    have ih := kcn_zip2 f hf h0 k items cs ds (by simpa using h)
    rw [List.zipWith_cons_cons, List.zip_cons_cons, List.zip_cons_cons, List.zip_cons_cons, kcn_cons, kcn_cons, kcn_cons, ih]
    by_cases e : it = k
    · simp only [e, if_true, hf]
    · simp only [e, if_false, Int.zero_add]
theorem kcn_zip1 (n : Int) (k : D) : ∀ (items : List D) (cs : List Int), kcn (items.zip (cs.map (n * ·))) k = n * kcn (items.zip cs) k
  | [], _ => by simp only [List.zip_nil_left, kcn_nil, Int.mul_zero]
  | _ :: _, [] => by simp only [List.map_nil, List.zip_nil_right, kcn_nil, Int.mul_zero]
  | it :: items, c :: cs => by
    have ih := kcn_zip1 n k items cs
    rw [List.map_cons, List.zip_cons_cons, List.zip_cons_cons, kcn_cons, kcn_cons, ih, Int.mul_add]
    by_cases e : it = k
    · simp only [e, if_true]
    · simp only [e, if_false, Int.mul_zero]
theorem kcn_zip_at {items : List D} {cs : List Int} (hn : items.Nodup) {i : Nat} {it : D} {c : Int} (h1 : items[i]? = some it) (h2 : cs[i]? = some c) : kcn (items.zip cs) it = c := by
  have : (it, c) ∈ items.zip cs := List.mem_of_getElem? (i := i) (by rw [List.getElem?_zip_eq_some]; exact ⟨h1, h2⟩)
  exact kcn_mem (zip_nodup cs hn) this
theorem kcn_nn {ps : List KC} (h : ∀ p ∈ ps, 0 ≤ p.2) (k : D) : 0 ≤ kcn ps k := by
  induction ps with
  | nil => exact Int.le_refl _
  | cons p ps ih =>
    have h1 := ih fun q hq => h q (List.mem_cons_of_mem _ hq)
    have h2 := h p List.mem_cons_self
    rw [kcn_cons]
    split <;> omega
theorem wp_nx {g h : DEnv → Option Out} {env e : DEnv} {Q : Out → Prop} (h1 : g env = some (.nx e)) (h2 : Wp (h e) Q) : Wp (dSeq g h env) Q := by
  rw [ev_seq, h1]
  exact h2
theorem wp_st {g h : DEnv → Option Out} {env : DEnv} {Q : Out → Prop} (P : DEnv → Prop) (h1 : Wp (g env) (fun o => ∃ e, o = .nx e ∧ P e)) (h2 : ∀ e, P e → Wp (h e) Q) : Wp (dSeq g h env) Q := by
  rw [ev_seq]
  exact wp_cutN P h1 h2
end DL

namespace K14
open PySem PySem.Spec PyProof.Rows L2 DL
/-! ### the text -/
def topS (i : Nat) : Stmt := PySem.Challenge.pw_mixform_k14_no_text.main.body.getD i (.Pass ⟨0, 0, 0, 0⟩)
abbrev s_plus : Stmt := topS 7
abbrev n_plus : List Str := ["one", "other", "counts", "item", "count"]
theorem sc_plus : FnScope n_plus ["one", "other"] (defScope s_plus) := ⟨rfl, rfl, rfl, by decide +kernel, rfl, by decide +kernel, by decide +kernel⟩
abbrev s_times : Stmt := topS 8
abbrev n_times : List Str := ["number", "form", "item", "count"]
theorem sc_times : FnScope n_times ["number", "form"] (defScope s_times) := ⟨rfl, rfl, rfl, by decide +kernel, rfl, by decide +kernel, by decide +kernel⟩
abbrev s_run_of : Stmt := topS 17
abbrev n_run_of : List Str := ["text", "at", "some", "end"]
theorem sc_run_of : FnScope n_run_of ["text", "at", "some"] (defScope s_run_of) := ⟨rfl, rfl, rfl, by decide +kernel, rfl, by decide +kernel, by decide +kernel⟩
abbrev s_word_at : Stmt := topS 18
abbrev n_word_at : List Str := ["text", "at", "letters", "word"]
theorem sc_word_at : FnScope n_word_at ["text", "at", "letters"] (defScope s_word_at) := ⟨rfl, rfl, rfl, by decide +kernel, rfl, by decide +kernel, by decide +kernel⟩
abbrev s_closed : Stmt := topS 19
abbrev n_closed : List Str := ["text", "at"]
theorem sc_closed : FnScope n_closed ["text", "at"] (defScope s_closed) := ⟨rfl, rfl, rfl, by decide +kernel, rfl, by decide +kernel, by decide +kernel⟩
abbrev s_thing_at : Stmt := topS 20
abbrev n_thing_at : List Str := ["text", "at", "sign", "parts", "part"]
theorem sc_thing_at : FnScope n_thing_at ["text", "at"] (defScope s_thing_at) := ⟨rfl, rfl, rfl, by decide +kernel, rfl, by decide +kernel, by decide +kernel⟩
abbrev s_body_at : Stmt := topS 21
abbrev n_body_at : List Str := ["text", "at", "sign", "form", "name"]
theorem sc_body_at : FnScope n_body_at ["text", "at"] (defScope s_body_at) := ⟨rfl, rfl, rfl, by decide +kernel, rfl, by decide +kernel, by decide +kernel⟩
abbrev s_part_at : Stmt := topS 22
abbrev n_part_at : List Str := ["text", "at", "figures", "form", "behind"]
theorem sc_part_at : FnScope n_part_at ["text", "at"] (defScope s_part_at) := ⟨rfl, rfl, rfl, by decide +kernel, rfl, by decide +kernel, by decide +kernel⟩
abbrev s_sum_at : Stmt := topS 23
abbrev n_sum_at : List Str := ["text", "at", "form", "part"]
theorem sc_sum_at : FnScope n_sum_at ["text", "at"] (defScope s_sum_at) := ⟨rfl, rfl, rfl, by decide +kernel, rfl, by decide +kernel, by decide +kernel⟩
abbrev s_ask_text : Stmt := topS 24
abbrev n_ask_text : List Str := ["text", "deep", "sign"]
theorem sc_ask_text : FnScope n_ask_text ["text"] (defScope s_ask_text) := ⟨rfl, rfl, rfl, by decide +kernel, rfl, by decide +kernel, by decide +kernel⟩
abbrev s_read : Stmt := topS 25
abbrev n_read : List Str := ["text", "form", "at"]
theorem sc_read : FnScope n_read ["text"] (defScope s_read) := ⟨rfl, rfl, rfl, by decide +kernel, rfl, by decide +kernel, by decide +kernel⟩
abbrev s_l_cell : Stmt := topS 27
abbrev n_l_cell : List Str := ["_law_script", "_law_k", "_law_number"]
theorem sc_l_cell : FnScope n_l_cell ["_law_script", "_law_k"] (defScope s_l_cell) := ⟨rfl, rfl, rfl, by decide +kernel, rfl, by decide +kernel, by decide +kernel⟩
abbrev s_l_pick : Stmt := topS 28
abbrev n_l_pick : List Str := ["_law_script", "_law_k", "_law_many", "_law_number"]
theorem sc_l_pick : FnScope n_l_pick ["_law_script", "_law_k", "_law_many"] (defScope s_l_pick) := ⟨rfl, rfl, rfl, by decide +kernel, rfl, by decide +kernel, by decide +kernel⟩
abbrev s_l_names : Stmt := topS 29
abbrev n_l_names : List Str := ["_law_script", "_law_k", "_law_letters", "_law_word", "_law_j", "_law_at", "_law_first", "_law_names_here", "_law_sign"]
theorem sc_l_names : FnScope n_l_names ["_law_script", "_law_k", "_law_letters"] (defScope s_l_names) := ⟨rfl, rfl, rfl, by decide +kernel, rfl, by decide +kernel, by decide +kernel⟩
abbrev s_l_unknowns : Stmt := topS 30
abbrev n_l_unknowns : List Str := ["_law_script", "_law_k"]
theorem sc_l_unknowns : FnScope n_l_unknowns ["_law_script", "_law_k"] (defScope s_l_unknowns) := ⟨rfl, rfl, rfl, by decide +kernel, rfl, by decide +kernel, by decide +kernel⟩
abbrev s_l_signs : Stmt := topS 31
abbrev n_l_signs : List Str := ["_law_script", "_law_k"]
theorem sc_l_signs : FnScope n_l_signs ["_law_script", "_law_k"] (defScope s_l_signs) := ⟨rfl, rfl, rfl, by decide +kernel, rfl, by decide +kernel, by decide +kernel⟩
abbrev s_l_same : Stmt := topS 33
abbrev n_l_same : List Str := ["_law_found", "_law_due", "_law_one", "_law_other"]
theorem sc_l_same : FnScope n_l_same ["_law_found", "_law_due"] (defScope s_l_same) := ⟨rfl, rfl, rfl, by decide +kernel, rfl, by decide +kernel, by decide +kernel⟩
abbrev s_l_refused : Stmt := topS 34
abbrev n_l_refused : List Str := ["_law_thing", "error", "_law_kinds"]
theorem sc_l_refused : FnScope n_l_refused ["_law_thing"] (defScope s_l_refused) := ⟨rfl, rfl, rfl, by decide +kernel, rfl, by decide +kernel, by decide +kernel⟩
abbrev s_l_any : Stmt := topS 35
abbrev n_l_any : List Str := ["_law_name", "_law_count"]
theorem sc_l_any : FnScope n_l_any ["_law_name", "_law_count"] (defScope s_l_any) := ⟨rfl, rfl, rfl, by decide +kernel, rfl, by decide +kernel, by decide +kernel⟩
abbrev s_l_of : Stmt := topS 36
abbrev n_l_of : List Str := ["_law_sign", "_law_parts"]
theorem sc_l_of : FnScope n_l_of ["_law_sign", "_law_parts"] (defScope s_l_of) := ⟨rfl, rfl, rfl, by decide +kernel, rfl, by decide +kernel, by decide +kernel⟩
abbrev s_l_by_number : Stmt := topS 37
abbrev n_l_by_number : List Str := ["_law_way", "_law_x", "_law_s", "_law_number", "_law_one", "_law_form", "_law_some", "_law_bad", "_law_good"]
theorem sc_l_by_number : FnScope n_l_by_number ["_law_way", "_law_x", "_law_s", "_law_number"] (defScope s_l_by_number) := ⟨rfl, rfl, rfl, by decide +kernel, rfl, by decide +kernel, by decide +kernel⟩
abbrev s_l_by_word : Stmt := topS 38
abbrev n_l_by_word : List Str := ["_law_way", "_law_x", "_law_s", "_law_some"]
theorem sc_l_by_word : FnScope n_l_by_word ["_law_way", "_law_x", "_law_s"] (defScope s_l_by_word) := ⟨rfl, rfl, rfl, by decide +kernel, rfl, by decide +kernel, by decide +kernel⟩
abbrev s_l_by_plus : Stmt := topS 39
abbrev n_l_by_plus : List Str := ["_law_way", "_law_x", "_law_s", "_law_some"]
theorem sc_l_by_plus : FnScope n_l_by_plus ["_law_way", "_law_x", "_law_s"] (defScope s_l_by_plus) := ⟨rfl, rfl, rfl, by decide +kernel, rfl, by decide +kernel, by decide +kernel⟩
abbrev s_l_by_parts : Stmt := topS 40
abbrev n_l_by_parts : List Str := ["_law_way", "_law_x", "_law_s", "_law_two", "_law_some"]
theorem sc_l_by_parts : FnScope n_l_by_parts ["_law_way", "_law_x", "_law_s"] (defScope s_l_by_parts) := ⟨rfl, rfl, rfl, by decide +kernel, rfl, by decide +kernel, by decide +kernel⟩
abbrev s_l_by_size : Stmt := topS 41
abbrev n_l_by_size : List Str := ["_law_way", "_law_x", "_law_s", "_law_form", "_law_k"]
theorem sc_l_by_size : FnScope n_l_by_size ["_law_way", "_law_x", "_law_s"] (defScope s_l_by_size) := ⟨rfl, rfl, rfl, by decide +kernel, rfl, by decide +kernel, by decide +kernel⟩
abbrev s_l_within : Stmt := topS 42
abbrev n_l_within : List Str := ["_law_way", "_law_x", "_law_s", "_law_told", "_law_bad", "_law_good", "_law_form"]
theorem sc_l_within : FnScope n_l_within ["_law_way", "_law_x", "_law_s", "_law_told"] (defScope s_l_within) := ⟨rfl, rfl, rfl, by decide +kernel, rfl, by decide +kernel, by decide +kernel⟩
abbrev s_l_pair : Stmt := topS 43
abbrev n_l_pair : List Str := ["_law_script", "_law_k", "_law_x", "_law_s", "_law_way", "_law_kind", "_law_told"]
theorem sc_l_pair : FnScope n_l_pair ["_law_script", "_law_k", "_law_x", "_law_s"] (defScope s_l_pair) := ⟨rfl, rfl, rfl, by decide +kernel, rfl, by decide +kernel, by decide +kernel⟩
abbrev s_law : Stmt := topS 44
abbrev n_law : List Str := ["_law_script", "_law_x", "_law_s", "_law_k", "_law_bad", "_law_good", "_law_form", "_law_number", "_law_thing"]
theorem sc_law : FnScope n_law ["_law_script"] (defScope s_law) := ⟨rfl, rfl, rfl, by decide +kernel, rfl, by decide +kernel, by decide +kernel⟩
/-! ### what the top leaves -/
structure Top (K : PySem.W.Frag) (mg : Str → Option Value) where
  f_plus : Addr
  d_plus : FuncData
  F_plus : Fun K "plus" "plus" s_plus f_plus d_plus
  b_plus : Binds K d_plus ["one", "other"] []
  m_plus : mg "plus" = some (.ref f_plus)
  f_times : Addr
  d_times : FuncData
  F_times : Fun K "times" "times" s_times f_times d_times
  b_times : Binds K d_times ["number", "form"] []
  m_times : mg "times" = some (.ref f_times)
  f_run_of : Addr
  d_run_of : FuncData
  F_run_of : Fun K "run_of" "run_of" s_run_of f_run_of d_run_of
  b_run_of : Binds K d_run_of ["text", "at", "some"] []
  m_run_of : mg "run_of" = some (.ref f_run_of)
  f_word_at : Addr
  d_word_at : FuncData
  F_word_at : Fun K "word_at" "word_at" s_word_at f_word_at d_word_at
  b_word_at : Binds K d_word_at ["text", "at", "letters"] []
  m_word_at : mg "word_at" = some (.ref f_word_at)
  f_closed : Addr
  d_closed : FuncData
  F_closed : Fun K "closed" "closed" s_closed f_closed d_closed
  b_closed : Binds K d_closed ["text", "at"] []
  m_closed : mg "closed" = some (.ref f_closed)
  f_thing_at : Addr
  d_thing_at : FuncData
  F_thing_at : Fun K "thing_at" "thing_at" s_thing_at f_thing_at d_thing_at
  b_thing_at : Binds K d_thing_at ["text", "at"] []
  m_thing_at : mg "thing_at" = some (.ref f_thing_at)
  f_body_at : Addr
  d_body_at : FuncData
  F_body_at : Fun K "body_at" "body_at" s_body_at f_body_at d_body_at
  b_body_at : Binds K d_body_at ["text", "at"] []
  m_body_at : mg "body_at" = some (.ref f_body_at)
  f_part_at : Addr
  d_part_at : FuncData
  F_part_at : Fun K "part_at" "part_at" s_part_at f_part_at d_part_at
  b_part_at : Binds K d_part_at ["text", "at"] []
  m_part_at : mg "part_at" = some (.ref f_part_at)
  f_sum_at : Addr
  d_sum_at : FuncData
  F_sum_at : Fun K "sum_at" "sum_at" s_sum_at f_sum_at d_sum_at
  b_sum_at : Binds K d_sum_at ["text", "at"] []
  m_sum_at : mg "sum_at" = some (.ref f_sum_at)
  f_ask_text : Addr
  d_ask_text : FuncData
  F_ask_text : Fun K "ask_text" "ask_text" s_ask_text f_ask_text d_ask_text
  b_ask_text : Binds K d_ask_text ["text"] []
  m_ask_text : mg "ask_text" = some (.ref f_ask_text)
  f_read : Addr
  d_read : FuncData
  F_read : Fun K "read" "read" s_read f_read d_read
  b_read : Binds K d_read ["text"] []
  m_read : mg "read" = some (.ref f_read)
  f_l_cell : Addr
  d_l_cell : FuncData
  F_l_cell : Fun K "_law_cell" "_law_cell" s_l_cell f_l_cell d_l_cell
  b_l_cell : Binds K d_l_cell ["_law_script", "_law_k"] []
  m_l_cell : mg "_law_cell" = some (.ref f_l_cell)
  f_l_pick : Addr
  d_l_pick : FuncData
  F_l_pick : Fun K "_law_pick" "_law_pick" s_l_pick f_l_pick d_l_pick
  b_l_pick : Binds K d_l_pick ["_law_script", "_law_k", "_law_many"] []
  m_l_pick : mg "_law_pick" = some (.ref f_l_pick)
  f_l_names : Addr
  d_l_names : FuncData
  F_l_names : Fun K "_law_names" "_law_names" s_l_names f_l_names d_l_names
  b_l_names : Binds K d_l_names ["_law_script", "_law_k", "_law_letters"] []
  m_l_names : mg "_law_names" = some (.ref f_l_names)
  f_l_unknowns : Addr
  d_l_unknowns : FuncData
  F_l_unknowns : Fun K "_law_unknowns" "_law_unknowns" s_l_unknowns f_l_unknowns d_l_unknowns
  b_l_unknowns : Binds K d_l_unknowns ["_law_script", "_law_k"] []
  m_l_unknowns : mg "_law_unknowns" = some (.ref f_l_unknowns)
  f_l_signs : Addr
  d_l_signs : FuncData
  F_l_signs : Fun K "_law_signs" "_law_signs" s_l_signs f_l_signs d_l_signs
  b_l_signs : Binds K d_l_signs ["_law_script", "_law_k"] []
  m_l_signs : mg "_law_signs" = some (.ref f_l_signs)
  f_l_same : Addr
  d_l_same : FuncData
  F_l_same : Fun K "_law_same" "_law_same" s_l_same f_l_same d_l_same
  b_l_same : Binds K d_l_same ["_law_found", "_law_due"] []
  m_l_same : mg "_law_same" = some (.ref f_l_same)
  f_l_refused : Addr
  d_l_refused : FuncData
  F_l_refused : Fun K "_law_refused" "_law_refused" s_l_refused f_l_refused d_l_refused
  b_l_refused : Binds K d_l_refused ["_law_thing"] []
  m_l_refused : mg "_law_refused" = some (.ref f_l_refused)
  f_l_any : Addr
  d_l_any : FuncData
  F_l_any : Fun K "_law_any" "_law_any" s_l_any f_l_any d_l_any
  b_l_any : Binds K d_l_any ["_law_name", "_law_count"] []
  m_l_any : mg "_law_any" = some (.ref f_l_any)
  f_l_of : Addr
  d_l_of : FuncData
  F_l_of : Fun K "_law_of" "_law_of" s_l_of f_l_of d_l_of
  b_l_of : Binds K d_l_of ["_law_sign", "_law_parts"] []
  m_l_of : mg "_law_of" = some (.ref f_l_of)
  f_l_by_number : Addr
  d_l_by_number : FuncData
  F_l_by_number : Fun K "_law_by_number" "_law_by_number" s_l_by_number f_l_by_number d_l_by_number
  b_l_by_number : Binds K d_l_by_number ["_law_way", "_law_x", "_law_s", "_law_number"] []
  m_l_by_number : mg "_law_by_number" = some (.ref f_l_by_number)
  f_l_by_word : Addr
  d_l_by_word : FuncData
  F_l_by_word : Fun K "_law_by_word" "_law_by_word" s_l_by_word f_l_by_word d_l_by_word
  b_l_by_word : Binds K d_l_by_word ["_law_way", "_law_x", "_law_s"] []
  m_l_by_word : mg "_law_by_word" = some (.ref f_l_by_word)
  f_l_by_plus : Addr
  d_l_by_plus : FuncData
  F_l_by_plus : Fun K "_law_by_plus" "_law_by_plus" s_l_by_plus f_l_by_plus d_l_by_plus
  b_l_by_plus : Binds K d_l_by_plus ["_law_way", "_law_x", "_law_s"] []
  m_l_by_plus : mg "_law_by_plus" = some (.ref f_l_by_plus)
  f_l_by_parts : Addr
  d_l_by_parts : FuncData
  F_l_by_parts : Fun K "_law_by_parts" "_law_by_parts" s_l_by_parts f_l_by_parts d_l_by_parts
  b_l_by_parts : Binds K d_l_by_parts ["_law_way", "_law_x", "_law_s"] []
  m_l_by_parts : mg "_law_by_parts" = some (.ref f_l_by_parts)
  f_l_by_size : Addr
  d_l_by_size : FuncData
  F_l_by_size : Fun K "_law_by_size" "_law_by_size" s_l_by_size f_l_by_size d_l_by_size
  b_l_by_size : Binds K d_l_by_size ["_law_way", "_law_x", "_law_s"] []
  m_l_by_size : mg "_law_by_size" = some (.ref f_l_by_size)
  f_l_within : Addr
  d_l_within : FuncData
  F_l_within : Fun K "_law_within" "_law_within" s_l_within f_l_within d_l_within
  b_l_within : Binds K d_l_within ["_law_way", "_law_x", "_law_s", "_law_told"] []
  m_l_within : mg "_law_within" = some (.ref f_l_within)
  f_l_pair : Addr
  d_l_pair : FuncData
  F_l_pair : Fun K "_law_pair" "_law_pair" s_l_pair f_l_pair d_l_pair
  b_l_pair : Binds K d_l_pair ["_law_script", "_law_k", "_law_x", "_law_s"] []
  m_l_pair : mg "_law_pair" = some (.ref f_l_pair)
  f_law : Addr
  d_law : FuncData
  F_law : Fun K "law" "law" s_law f_law d_law
  b_law : Binds K d_law ["_law_script"] []
  m_law : mg "law" = some (.ref f_law)
  z_ValueError : mg "ValueError" = none
  z_bool : mg "bool" = none
  z_dict : mg "dict" = none
  z_int : mg "int" = none
  z_isinstance : mg "isinstance" = none
  z_len : mg "len" = none
  z_list : mg "list" = none
  z_max : mg "max" = none
  z_min : mg "min" = none
  z_range : mg "range" = none
  z_sorted : mg "sorted" = none
  z_str : mg "str" = none
  z_tuple : mg "tuple" = none
  z_zip : mg "zip" = none
  c_CAPITAL : ∃ t, mg "CAPITAL" = some (.str "ABCDEFGHIJKLMNOPQRSTUVWXYZ" t)
  c_FIGURES : ∃ t, mg "FIGURES" = some (.str "0123456789" t)
  c_MOST_DEEP : ∃ t, mg "MOST_DEEP" = some (.int 20 t)
  c_MOST_FIGURES : ∃ t, mg "MOST_FIGURES" = some (.int 18 t)
  c_MOST_LETTERS : ∃ t, mg "MOST_LETTERS" = some (.int 6 t)
  c_MOST_SIGNS : ∃ t, mg "MOST_SIGNS" = some (.int 600 t)
  c_SMALL : ∃ t, mg "SMALL" = some (.str "abcdefghijklmnopqrstuvwxyz" t)
  E : Errs
  eo : ErrsOk K mg E ["NoText"] ["MixError", "NoText", "TooMany", "NoRow", "NoRule"]
/-! ### the bodies as functions on data -/
def g_plus : DEnv → Option Out :=
  (dSeq (dSetO 2 (dCall dictD (dCons (dVarS 0) dNil)))
  (dSeq (dFor (gT 2 (gCons' (gN 3) (gCons' (gN 4) gNil'))) (dIt asLT (dVar 1))
    (dPut 2 (dVar 3) (d2 addD (dGet (dVarS 2) (dCons (dVar 3) (dCons (dC (.int 0)) dNil))) (dVarS 4))))
  (dRet (dCall tupleD (dCons (d1 sortItems (dVarS 2)) dNil)))))
def G_plus : List D → Option Res := runD 5 g_plus
def g_times : DEnv → Option Out :=
  (dSeq (dIfS (dTst (d2 eqD (dVarS 0) (dC (.int 0))))
    (dRet (dTup dNil))
    dNx)
  (dRet (dCall tupleD (dCons (dLc [2, 3] (gT 2 (gCons' (gN 2) (gCons' (gN 3) gNil'))) (dIt asLT (dVar 1)) dYes (dTup (dCons (dVar 2) (dCons (d2 mulD (dVarS 0) (dVarS 3)) dNil)))) dNil))))
def G_times : List D → Option Res := runD 4 g_times
def g_run_of : DEnv → Option Out :=
  (dSeq (dSet 3 (dVar 1))
  (dSeq (whileD (dAnd (dTst (d2 ltD (dVarS 3) (dCall lenD (dCons (dVarS 0) dNil)))) (dTst (d2 inSD (d2 getD' (dVarS 0) (dVarS 3)) (dVarS 2))))
    (dAug 3 iaddD (dC (.int 1))) 700)
  (dRet (dSl cutD (dVarS 0) (dSome (dVar 1)) (dSome (dVar 3))))))
def G_run_of : List D → Option Res := runD 4 g_run_of
def g_word_at (E : Errs) : DEnv → Option Out :=
  (dSeq (dSet 3 (dFn (fun ds => G_run_of (ds ++ [])) (dCons (dVar 0) (dCons (dVar 1) (dCons (dVar 2) dNil)))))
  (dSeq (dIfS (dOr (dTst (d2 ltD (dCall lenD (dCons (dVarS 3) dNil)) (dC (.int 1)))) (dTst (d2 gtD (dCall lenD (dCons (dVarS 3) dNil)) (dC (.int 6)))))
    (dRaise (.ref (E.c "NoText")))
    dNx)
  (dRetVar 3)))
def G_word_at (E : Errs) : List D → Option Res := runD 4 (g_word_at E)
def g_closed (E : Errs) : DEnv → Option Out :=
  (dSeq (dIfS (dTst (d2 neD (dSl cutD (dVarS 0) (dSome (dVar 1)) (dSome (d2 addD (dVarS 1) (dC (.int 1))))) (dC (.str ")"))))
    (dRaise (.ref (E.c "NoText")))
    dNx)
  (dRet (d2 addD (dVarS 1) (dC (.int 1)))))
def G_closed (E : Errs) : List D → Option Res := runD 2 (g_closed E)
def g_thing_at (E : Errs) (R_thing_at : List D → Option Res) (R_body_at : List D → Option Res) (R_part_at : List D → Option Res) (R_sum_at : List D → Option Res) : DEnv → Option Out :=
  (dSeq (dSet 2 (dFn (fun ds => (G_word_at E) (ds ++ [])) (dCons (dVar 0) (dCons (dVar 1) (dCons (dC (.str "ABCDEFGHIJKLMNOPQRSTUVWXYZ")) dNil)))))
  (dSeq (dAug 1 iaddD (dCall lenD (dCons (dVarS 2) dNil)))
  (dSeq (dSetO 3 (dLst dNil))
  (dSeq (dIfS (dTst (d2 eqD (dSl cutD (dVarS 0) (dSome (dVar 1)) (dSome (d2 addD (dVarS 1) (dC (.int 1))))) (dC (.str "("))))
    (dSeq (dAsg (gT 2 (gCons' (gN 4) (gCons' (gN 1) gNil'))) (dFn (fun ds => R_sum_at (ds ++ [])) (dCons (dVar 0) (dCons (d2 addD (dVarS 1) (dC (.int 1))) dNil))))
  (dSeq (dApp 3 (dVar 4))
  (dSeq (whileD (dAnd (dTst (d2 ltD (dCall lenD (dCons (dVarS 3) dNil)) (dC (.int 3)))) (dTst (d2 eqD (dSl cutD (dVarS 0) (dSome (dVar 1)) (dSome (d2 addD (dVarS 1) (dC (.int 2))))) (dC (.str ", ")))))
    (dSeq (dAsg (gT 2 (gCons' (gN 4) (gCons' (gN 1) gNil'))) (dFn (fun ds => R_sum_at (ds ++ [])) (dCons (dVar 0) (dCons (d2 addD (dVarS 1) (dC (.int 2))) dNil))))
  (dApp 3 (dVar 4))) 5)
  (dSet 1 (dFn (fun ds => (G_closed E) (ds ++ [])) (dCons (dVar 0) (dCons (dVar 1) dNil)))))))
    dNx)
  (dRet (dTup (dCons (dTup (dCons (dTup (dCons (dTup (dCons (dC (.str "of")) (dCons (dVar 2) (dCons (dCall tupleD (dCons (dVarS 3) dNil)) dNil)))) (dCons (dC (.int 1)) dNil))) dNil)) (dCons (dVar 1) dNil))))))))
def g_body_at (E : Errs) (R_thing_at : List D → Option Res) (R_body_at : List D → Option Res) (R_part_at : List D → Option Res) (R_sum_at : List D → Option Res) : DEnv → Option Out :=
  (dSeq (dSet 2 (dSl cutD (dVarS 0) (dSome (dVar 1)) (dSome (d2 addD (dVarS 1) (dC (.int 1))))))
  (dSeq (dIfS (dTst (d2 eqD (dVarS 2) (dC (.str "("))))
    (dSeq (dAsg (gT 2 (gCons' (gN 3) (gCons' (gN 1) gNil'))) (dFn (fun ds => R_sum_at (ds ++ [])) (dCons (dVar 0) (dCons (d2 addD (dVarS 1) (dC (.int 1))) dNil))))
  (dRet (dTup (dCons (dVar 3) (dCons (dFn (fun ds => (G_closed E) (ds ++ [])) (dCons (dVar 0) (dCons (dVar 1) dNil))) dNil)))))
    dNx)
  (dSeq (dIfS (dAnd (dTst (d2 neD (dVarS 2) (dC (.str "")))) (dTst (d2 inSD (dVarS 2) (dC (.str "abcdefghijklmnopqrstuvwxyz")))))
    (dSeq (dSet 4 (dFn (fun ds => (G_word_at E) (ds ++ [])) (dCons (dVar 0) (dCons (dVar 1) (dCons (dC (.str "abcdefghijklmnopqrstuvwxyz")) dNil)))))
  (dRet (dTup (dCons (dTup (dCons (dTup (dCons (dTup (dCons (dC (.str "any")) (dCons (dVar 4) dNil))) (dCons (dC (.int 1)) dNil))) dNil)) (dCons (d2 addD (dVarS 1) (dCall lenD (dCons (dVarS 4) dNil))) dNil)))))
    dNx)
  (dRet (dFn (fun ds => R_thing_at (ds ++ [])) (dCons (dVar 0) (dCons (dVar 1) dNil)))))))
def g_part_at (E : Errs) (R_thing_at : List D → Option Res) (R_body_at : List D → Option Res) (R_part_at : List D → Option Res) (R_sum_at : List D → Option Res) : DEnv → Option Out :=
  (dSeq (dSet 2 (dFn (fun ds => G_run_of (ds ++ [])) (dCons (dVar 0) (dCons (dVar 1) (dCons (dC (.str "0123456789")) dNil)))))
  (dSeq (dIfS (dTst (d2 eqD (dVarS 2) (dC (.str "0"))))
    (dRet (dTup (dCons (dTup dNil) (dCons (d2 addD (dVarS 1) (dC (.int 1))) dNil))))
    dNx)
  (dSeq (dIfS (dTst (d2 eqD (dVarS 2) (dC (.str ""))))
    (dRet (dFn (fun ds => R_body_at (ds ++ [])) (dCons (dVar 0) (dCons (dVar 1) dNil))))
    dNx)
  (dSeq (dIfS (dOr (dTst (d2 eqD (d2 getD' (dVarS 2) (dC (.int 0))) (dC (.str "0")))) (dTst (d2 gtD (dCall lenD (dCons (dVarS 2) dNil)) (dC (.int 18)))))
    (dRaise (.ref (E.c "NoText")))
    dNx)
  (dSeq (dAsg (gT 2 (gCons' (gN 3) (gCons' (gN 4) gNil'))) (dFn (fun ds => R_body_at (ds ++ [])) (dCons (dVar 0) (dCons (d2 addD (dVarS 1) (dCall lenD (dCons (dVarS 2) dNil))) dNil))))
  (dRet (dTup (dCons (dFn (fun ds => G_times (ds ++ [])) (dCons (dCall intSD (dCons (dVarS 2) dNil)) (dCons (dVar 3) dNil))) (dCons (dVar 4) dNil)))))))))
def g_sum_at (E : Errs) (R_thing_at : List D → Option Res) (R_body_at : List D → Option Res) (R_part_at : List D → Option Res) (R_sum_at : List D → Option Res) : DEnv → Option Out :=
  (dSeq (dAsg (gT 2 (gCons' (gN 2) (gCons' (gN 1) gNil'))) (dFn (fun ds => R_part_at (ds ++ [])) (dCons (dVar 0) (dCons (dVar 1) dNil))))
  (dSeq (whileD (dTst (d2 eqD (dSl cutD (dVarS 0) (dSome (dVar 1)) (dSome (d2 addD (dVarS 1) (dC (.int 3))))) (dC (.str " + "))))
    (dSeq (dAsg (gT 2 (gCons' (gN 3) (gCons' (gN 1) gNil'))) (dFn (fun ds => R_part_at (ds ++ [])) (dCons (dVar 0) (dCons (d2 addD (dVarS 1) (dC (.int 3))) dNil))))
  (dSet 2 (dFn (fun ds => G_plus (ds ++ [])) (dCons (dVar 2) (dCons (dVar 3) dNil))))) 200)
  (dRet (dTup (dCons (dVar 2) (dCons (dVar 1) dNil))))))
mutual
def G_thing_at (E : Errs) : Nat → List D → Option Res
  | 0 => fun _ => none
  | n + 1 => runD 5 (g_thing_at E (G_thing_at E n) (G_body_at E n) (G_part_at E n) (G_sum_at E n))
def G_body_at (E : Errs) : Nat → List D → Option Res
  | 0 => fun _ => none
  | n + 1 => runD 5 (g_body_at E (G_thing_at E n) (G_body_at E n) (G_part_at E n) (G_sum_at E n))
def G_part_at (E : Errs) : Nat → List D → Option Res
  | 0 => fun _ => none
  | n + 1 => runD 5 (g_part_at E (G_thing_at E n) (G_body_at E n) (G_part_at E n) (G_sum_at E n))
def G_sum_at (E : Errs) : Nat → List D → Option Res
  | 0 => fun _ => none
  | n + 1 => runD 4 (g_sum_at E (G_thing_at E n) (G_body_at E n) (G_part_at E n) (G_sum_at E n))
end
def g_ask_text (E : Errs) : DEnv → Option Out :=
  (dSeq (dIfS (dOr (dNot (dTst (d1 (isiX "str") (dVarS 0)))) (dTst (d2 gtD (dCall lenD (dCons (dVarS 0) dNil)) (dC (.int 600)))))
    (dRaise (.ref (E.c "NoText")))
    dNx)
  (dSeq (dSet 1 (dC (.int 0)))
  (dFor (gN 2) (dIt asStr (dVar 0))
    (dSeq (dIfS (dTst (d2 eqD (dVarS 2) (dC (.str "("))))
    (dAug 1 iaddD (dC (.int 1)))
    dNx)
  (dSeq (dIfS (dTst (d2 eqD (dVarS 2) (dC (.str ")"))))
    (dAug 1 subD (dC (.int 1)))
    dNx)
  (dIfS (dTst (d2 gtD (dVarS 1) (dC (.int 20))))
    (dRaise (.ref (E.c "NoText")))
    dNx))))))
def G_ask_text (E : Errs) : List D → Option Res := runD 3 (g_ask_text E)
def g_read (E : Errs) : DEnv → Option Out :=
  (dSeq (dExpr (dFn (fun ds => (G_ask_text E) (ds ++ [])) (dCons (dVar 0) dNil)))
  (dSeq (dAsg (gT 2 (gCons' (gN 1) (gCons' (gN 2) gNil'))) (dFn (fun ds => (G_sum_at E 90) (ds ++ [])) (dCons (dVar 0) (dCons (dC (.int 0)) dNil))))
  (dSeq (dIfS (dTst (d2 neD (dVarS 2) (dCall lenD (dCons (dVarS 0) dNil))))
    (dRaise (.ref (E.c "NoText")))
    dNx)
  (dRetVar 1))))
def G_read (E : Errs) : List D → Option Res := runD 3 (g_read E)
def g_l_cell : DEnv → Option Out :=
  (dSeq (dIfS (dTst (d2 ltD (dVarS 1) (dCall lenD (dCons (dVarS 0) dNil))))
    (dRet (d2 getD' (dVarS 0) (dVarS 1)))
    dNx)
  (dSeq (dSet 2 (d2 addD (d2 mulD (dVarS 1) (dC (.int 7919))) (dC (.int 5))))
  (dSeq (dIfS (dTst (d2 gtD (dCall lenD (dCons (dVarS 0) dNil)) (dC (.int 0))))
    (dSet 2 (d2 addD (d2 addD (d2 mulD (d2 modD (d2 getD' (dVarS 0) (d2 modD (dVarS 1) (dCall lenD (dCons (dVarS 0) dNil)))) (dC (.int 2147483647))) (dC (.int 48271))) (d2 mulD (d2 mulD (dVarS 1) (dVarS 1)) (dC (.int 7919)))) (dC (.int 11))))
    dNx)
  (dRet (d2 modD (d2 mulD (dVarS 2) (dVarS 2)) (dC (.int 2147483629)))))))
def G_l_cell : List D → Option Res := runD 3 g_l_cell
def g_l_pick : DEnv → Option Out :=
  (dSeq (dSet 3 (d2 addD (d2 mulD (d2 modD (dFn (fun ds => G_l_cell (ds ++ [])) (dCons (dVar 0) (dCons (dVar 1) dNil))) (dC (.int 2147483647))) (d2 addD (dC (.int 48271)) (d2 mulD (dC (.int 2)) (dVarS 1)))) (d2 mulD (dC (.int 31)) (dVarS 1))))
  (dRet (d2 modD (d2 divD (d2 modD (dVarS 3) (dC (.int 2147483629))) (dC (.int 7))) (dVarS 2))))
def G_l_pick : List D → Option Res := runD 4 g_l_pick
def g_l_names : DEnv → Option Out :=
  (dSeq (dSet 3 (dC (.str "")))
  (dSeq (dFor (gN 4) (dItA rngD (dCons (dFn (fun ds => G_l_pick (ds ++ [])) (dCons (dVar 0) (dCons (dVar 1) (dCons (dC (.int 6)) dNil)))) dNil))
    (dSet 3 (d2 addD (dVarS 3) (d2 getD' (dVarS 2) (dFn (fun ds => G_l_pick (ds ++ [])) (dCons (dVar 0) (dCons (d2 addD (d2 addD (dVarS 1) (d2 mulD (dC (.int 11)) (dVarS 4))) (dC (.int 1))) (dCons (dC (.int 26)) dNil))))))))
  (dSeq (dSet 5 (dFn (fun ds => G_l_pick (ds ++ [])) (dCons (dVar 0) (dCons (d2 addD (dVarS 1) (dC (.int 2))) (dCons (d2 addD (dCall lenD (dCons (dVarS 3) dNil)) (dC (.int 1))) dNil)))))
  (dSeq (dSet 6 (dFn (fun ds => G_l_pick (ds ++ [])) (dCons (dVar 0) (dCons (d2 addD (dVarS 1) (dC (.int 3))) (dCons (dC (.int 26)) dNil)))))
  (dSeq (dIfS (dTst (d2 eqD (dFn (fun ds => G_l_pick (ds ++ [])) (dCons (dVar 0) (dCons (d2 addD (dVarS 1) (dC (.int 4))) (dCons (dC (.int 3)) dNil)))) (dC (.int 0))))
    (dSeq (dSet 3 (d2 addD (dSl cutD (dVarS 3) dNo (dSome (dC (.int 3)))) (d2 getD' (dVarS 2) (dVarS 6))))
  (dRetO (dLst (dCons (dVar 3) (dCons (d2 addD (dVarS 3) (d2 getD' (dVarS 2) (dVarS 5))) (dCons (d2 addD (d2 addD (dVarS 3) (d2 getD' (dVarS 2) (dVarS 5))) (d2 getD' (dVarS 2) (dVarS 6))) dNil))))))
    dNx)
  (dSeq (dSetO 7 (dLst dNil))
  (dSeq (dFor (gN 4) (dItA rngD (dCons (dC (.int 3)) dNil))
    (dSeq (dSet 8 (d2 getD' (dVarS 2) (d2 modD (d2 addD (dVarS 6) (d2 mulD (dC (.int 7)) (dVarS 4))) (dC (.int 26)))))
  (dApp 7 (d2 addD (d2 addD (dSl cutD (dVarS 3) dNo (dSome (dVar 5))) (dVarS 8)) (dSl cutD (dVarS 3) (dSome (dVar 5)) dNo)))))
  (dRetVar 7))))))))
def G_l_names : List D → Option Res := runD 9 g_l_names
def g_l_unknowns : DEnv → Option Out :=
  (dRet (dFn (fun ds => G_l_names (ds ++ [])) (dCons (dVar 0) (dCons (dVar 1) (dCons (dC (.str "abcdefghijklmnopqrstuvwxyz")) dNil)))))
def G_l_unknowns : List D → Option Res := runD 2 g_l_unknowns
def g_l_signs : DEnv → Option Out :=
  (dRet (dFn (fun ds => G_l_names (ds ++ [])) (dCons (dVar 0) (dCons (dVar 1) (dCons (dC (.str "ABCDEFGHIJKLMNOPQRSTUVWXYZ")) dNil)))))
def G_l_signs : List D → Option Res := runD 2 g_l_signs
def g_l_same (R_l_same : List D → Option Res) : DEnv → Option Out :=
  (dSeq (dIfS (dTst (d1 (isiD "str") (dVarS 1)))
    (dRet (dAndV (d1 (isiD "str") (dVarS 0)) (d2 eqD (dVarS 0) (dVarS 1))))
    dNx)
  (dSeq (dIfS (dTst (d1 (isiD "int") (dVarS 1)))
    (dRet (dAndV (d1 (isiD "int") (dVarS 0)) (dAndV (dNotV (d1 (isiD "bool") (dVarS 0))) (d2 eqD (dVarS 0) (dVarS 1)))))
    dNx)
  (dSeq (dIfS (dOr (dTst (d2 neD (d1 (isiD "list") (dVarS 1)) (d1 (isiD "list") (dVarS 0)))) (dTst (d2 neD (d1 (isiD "tuple") (dVarS 1)) (d1 (isiD "tuple") (dVarS 0)))))
    (dRet (dC (.bool false)))
    dNx)
  (dSeq (dIfS (dTst (d2 neD (dCall lenD (dCons (dVarS 0) dNil)) (dCall lenD (dCons (dVarS 1) dNil))))
    (dRet (dC (.bool false)))
    dNx)
  (dSeq (dFor (gT 2 (gCons' (gN 2) (gCons' (gN 3) gNil'))) (dItA zipX (dCons (dVar 0) (dCons (dVar 1) dNil)))
    (dIfS (dNot (dTst (dFn (fun ds => R_l_same (ds ++ [])) (dCons (dVar 2) (dCons (dVar 3) dNil)))))
    (dRet (dC (.bool false)))
    dNx))
  (dRet (dC (.bool true))))))))
def G_l_same : Nat → List D → Option Res
  | 0 => fun _ => none
  | n + 1 => runD 4 (g_l_same (G_l_same n))
def g_l_refused (E : Errs) : DEnv → Option Out :=
  (dSeq (dTry 1 (E.ca "MixError")
    (dExpr (dFn (fun ds => (G_read E) (ds ++ [])) (dCons (dVar 0) dNil)))
    (fun cls => (dSeq (dSet 2 (dLst (dCons (dIsE 1 (E.is cls "NoText")) (dCons (dIsE 1 (E.is cls "ValueError")) (dCons (dIsE 1 (E.is cls "TooMany")) dNil)))))
  (dRet (d2 eqD (d2 addD (dVarS 2) (dLst (dCons (dIsE 1 (E.is cls "NoRow")) (dCons (dIsE 1 (E.is cls "NoRule")) dNil)))) (dLst (dCons (dC (.bool true)) (dCons (dC (.bool true)) (dCons (dC (.bool false)) (dCons (dC (.bool false)) (dCons (dC (.bool false)) dNil)))))))))))
  (dRet (dC (.bool false))))
def G_l_refused (E : Errs) : List D → Option Res := runD 3 (g_l_refused E)
def g_l_any : DEnv → Option Out :=
  (dRet (dTup (dCons (dTup (dCons (dTup (dCons (dC (.str "any")) (dCons (dVar 0) dNil))) (dCons (dVar 1) dNil))) dNil)))
def G_l_any : List D → Option Res := runD 2 g_l_any
def g_l_of : DEnv → Option Out :=
  (dRet (dTup (dCons (dTup (dCons (dTup (dCons (dC (.str "of")) (dCons (dVar 0) (dCons (dVar 1) dNil)))) (dCons (dC (.int 1)) dNil))) dNil)))
def G_l_of : List D → Option Res := runD 2 g_l_of
def g_l_by_number : DEnv → Option Out :=
  (dSeq (dSet 4 (dCall strD (dCons (dVarS 3) dNil)))
  (dSeq (dSet 5 (dFn (fun ds => G_l_any (ds ++ [])) (dCons (dVar 1) (dCons (dVar 3) dNil))))
  (dSeq (dSet 6 (dLst (dCons (dTup (dCons (d2 addD (d2 addD (dC (.str "0")) (dVarS 4)) (dVarS 1)) (dCons (d2 addD (dVarS 4) (dVarS 1)) dNil))) (dCons (dTup (dCons (d2 addD (d2 addD (dC (.str "-")) (dVarS 4)) (dVarS 1)) (dCons (d2 addD (dVarS 4) (dVarS 1)) dNil))) (dCons (dTup (dCons (d2 addD (d2 addD (dC (.str "+")) (dVarS 4)) (dVarS 1)) (dCons (d2 addD (dVarS 4) (dVarS 1)) dNil))) (dCons (dTup (dCons (dVar 4) (dCons (d2 addD (dVarS 4) (dVarS 1)) dNil))) dNil))))))
  (dSeq (dSet 6 (d2 addD (dVarS 6) (dLst (dCons (dTup (dCons (d2 addD (d2 addD (dVarS 4) (dC (.str " "))) (dVarS 1)) (dCons (d2 addD (dVarS 4) (dVarS 1)) dNil))) (dCons (dTup (dCons (d2 addD (dVarS 4) (dC (.str "0"))) (dCons (d2 addD (dVarS 4) (dVarS 1)) dNil))) (dCons (dTup (dCons (d2 addD (d2 addD (dVarS 4) (dC (.str "*"))) (dVarS 1)) (dCons (d2 addD (dVarS 4) (dVarS 1)) dNil))) (dCons (dTup (dCons (d2 addD (dVarS 1) (dVarS 4)) (dCons (d2 addD (dVarS 4) (dVarS 1)) dNil))) dNil)))))))
  (dSeq (dSet 6 (d2 addD (dVarS 6) (dLst (dCons (dTup (dCons (d2 addD (d2 addD (dVarS 4) (dC (.str "."))) (dVarS 1)) (dCons (d2 addD (dVarS 4) (dVarS 1)) dNil))) (dCons (dTup (dCons (d2 addD (d2 addD (dVarS 4) (dC (.str "("))) (dVarS 1)) (dCons (d2 addD (d2 addD (d2 addD (dVarS 4) (dC (.str "("))) (dVarS 1)) (dC (.str ")"))) dNil))) (dCons (dTup (dCons (d2 addD (d2 addD (dVarS 4) (dVarS 1)) (dC (.str ")"))) (dCons (d2 addD (dVarS 4) (dVarS 1)) dNil))) dNil))))))
  (dSeq (dSet 6 (d2 addD (dVarS 6) (dLst (dCons (dTup (dCons (d2 addD (d2 addD (dC (.str "1")) (dVarS 4)) (d2 mulSD (dVarS 1) (dC (.int 0)))) (dCons (d2 addD (d2 addD (d2 addD (dC (.str "(")) (dVarS 4)) (dVarS 1)) (dC (.str ")"))) dNil))) (dCons (dTup (dCons (d2 addD (d2 addD (dVarS 4) (dVarS 1)) (dC (.str " + "))) (dCons (d2 addD (dVarS 4) (dVarS 1)) dNil))) (dCons (dTup (dCons (d2 addD (d2 addD (dVarS 4) (dVarS 1)) (dC (.str ","))) (dCons (d2 addD (dVarS 4) (dVarS 1)) dNil))) dNil))))))
  (dSeq (dAsg (gT 2 (gCons' (gN 7) (gCons' (gN 8) gNil'))) (d2 getD' (dVarS 6) (d2 modD (dVarS 0) (dCall lenD (dCons (dVarS 6) dNil)))))
  (dRetO (dLst (dCons (dVar 7) (dCons (dVar 8) (dCons (dVar 5) dNil))))))))))))
def G_l_by_number : List D → Option Res := runD 9 g_l_by_number
def g_l_by_word : DEnv → Option Out :=
  (dSeq (dSet 3 (dLst (dCons (dTup (dCons (d2 addD (dC (.str "0")) (dVarS 1)) (dCons (dVar 1) (dCons (dFn (fun ds => G_l_any (ds ++ [])) (dCons (dVar 1) (dCons (dC (.int 1)) dNil))) dNil)))) (dCons (dTup (dCons (dC (.str "abcdefg")) (dCons (dC (.str "abcdef")) (dCons (dFn (fun ds => G_l_any (ds ++ [])) (dCons (dC (.str "abcdef")) (dCons (dC (.int 1)) dNil))) dNil)))) (dCons (dTup (dCons (dC (.str "00")) (dCons (dC (.str "0")) (dCons (dTup dNil) dNil)))) dNil)))))
  (dSeq (dSet 3 (d2 addD (dVarS 3) (dLst (dCons (dTup (dCons (dC (.str "ABCDEFG")) (dCons (dC (.str "ABCDEF")) (dCons (dFn (fun ds => G_l_of (ds ++ [])) (dCons (dC (.str "ABCDEF")) (dCons (dTup dNil) dNil))) dNil)))) (dCons (dTup (dCons (d2 addD (dVarS 1) (dVarS 2)) (dCons (dVar 1) (dCons (dFn (fun ds => G_l_any (ds ++ [])) (dCons (dVar 1) (dCons (dC (.int 1)) dNil))) dNil)))) (dCons (dTup (dCons (dC (.str "")) (dCons (dC (.str "0")) (dCons (dTup dNil) dNil)))) dNil))))))
  (dSeq (dSet 3 (d2 addD (dVarS 3) (dLst (dCons (dTup (dCons (d2 addD (dVarS 2) (dVarS 1)) (dCons (dVar 2) (dCons (dFn (fun ds => G_l_of (ds ++ [])) (dCons (dVar 2) (dCons (dTup dNil) dNil))) dNil)))) (dCons (dTup (dCons (d2 addD (d2 addD (d2 addD (dVarS 1) (dC (.str "("))) (dVarS 1)) (dC (.str ")"))) (dCons (dVar 1) (dCons (dFn (fun ds => G_l_any (ds ++ [])) (dCons (dVar 1) (dCons (dC (.int 1)) dNil))) dNil)))) (dCons (dTup (dCons (dC (.str "a_b")) (dCons (dC (.str "a")) (dCons (dFn (fun ds => G_l_any (ds ++ [])) (dCons (dC (.str "a")) (dCons (dC (.int 1)) dNil))) dNil)))) dNil))))))
  (dSeq (dSet 3 (d2 addD (dVarS 3) (dLst (dCons (dTup (dCons (d2 addD (d2 addD (dC (.str "0(")) (dVarS 1)) (dC (.str ")"))) (dCons (d2 addD (d2 addD (dC (.str "(0 + ")) (dVarS 1)) (dC (.str ")"))) (dCons (dFn (fun ds => G_l_any (ds ++ [])) (dCons (dVar 1) (dCons (dC (.int 1)) dNil))) dNil)))) (dCons (dTup (dCons (d2 addD (dC (.str "0")) (dVarS 2)) (dCons (dVar 2) (dCons (dFn (fun ds => G_l_of (ds ++ [])) (dCons (dVar 2) (dCons (dTup dNil) dNil))) dNil)))) (dCons (dTup (dCons (dC (.str " ")) (dCons (dC (.str "0")) (dCons (dTup dNil) dNil)))) dNil))))))
  (dSeq (dSet 3 (d2 addD (dVarS 3) (dLst (dCons (dTup (dCons (d2 addD (dCall strD (dCons (d2 powD (dC (.int 10)) (dC (.int 18))) dNil)) (dVarS 1)) (dCons (d2 addD (dCall strD (dCons (d2 subD (d2 powD (dC (.int 10)) (dC (.int 18))) (dC (.int 1))) dNil)) (dVarS 1)) (dCons (dFn (fun ds => G_l_any (ds ++ [])) (dCons (dVar 1) (dCons (d2 subD (d2 powD (dC (.int 10)) (dC (.int 18))) (dC (.int 1))) dNil))) dNil)))) dNil))))
  (dSeq (dSet 3 (d2 addD (dVarS 3) (dLst (dCons (dTup (dCons (d2 addD (dC (.str "01")) (dVarS 1)) (dCons (d2 addD (dC (.str "1")) (dVarS 1)) (dCons (dFn (fun ds => G_l_any (ds ++ [])) (dCons (dVar 1) (dCons (dC (.int 1)) dNil))) dNil)))) (dCons (dTup (dCons (d2 addD (dVarS 1) (dC (.str "1"))) (dCons (dVar 1) (dCons (dFn (fun ds => G_l_any (ds ++ [])) (dCons (dVar 1) (dCons (dC (.int 1)) dNil))) dNil)))) dNil)))))
  (dSeq (dSet 3 (d2 addD (dVarS 3) (dLst (dCons (dTup (dCons (d2 addD (dVarS 1) (dC (.str " "))) (dCons (dVar 1) (dCons (dFn (fun ds => G_l_any (ds ++ [])) (dCons (dVar 1) (dCons (dC (.int 1)) dNil))) dNil)))) (dCons (dTup (dCons (d2 addD (dC (.str " ")) (dVarS 1)) (dCons (dVar 1) (dCons (dFn (fun ds => G_l_any (ds ++ [])) (dCons (dVar 1) (dCons (dC (.int 1)) dNil))) dNil)))) (dCons (dTup (dCons (d2 addD (dVarS 1) (dC (.str "\n"))) (dCons (dVar 1) (dCons (dFn (fun ds => G_l_any (ds ++ [])) (dCons (dVar 1) (dCons (dC (.int 1)) dNil))) dNil)))) dNil))))))
  (dSeq (dSet 3 (d2 addD (dVarS 3) (dLst (dCons (dTup (dCons (dC (.str "()")) (dCons (dC (.str "(0)")) (dCons (dTup dNil) dNil)))) (dCons (dTup (dCons (d2 addD (dC (.str "(")) (dVarS 1)) (dCons (d2 addD (d2 addD (dC (.str "(")) (dVarS 1)) (dC (.str ")"))) (dCons (dFn (fun ds => G_l_any (ds ++ [])) (dCons (dVar 1) (dCons (dC (.int 1)) dNil))) dNil)))) (dCons (dTup (dCons (d2 addD (dVarS 1) (dC (.str ")"))) (dCons (dVar 1) (dCons (dFn (fun ds => G_l_any (ds ++ [])) (dCons (dVar 1) (dCons (dC (.int 1)) dNil))) dNil)))) dNil))))))
  (dSeq (dSet 3 (d2 addD (dVarS 3) (dLst (dCons (dTup (dCons (d2 addD (d2 addD (dC (.str "((")) (dVarS 1)) (dC (.str ")"))) (dCons (d2 addD (d2 addD (dC (.str "((")) (dVarS 1)) (dC (.str "))"))) (dCons (dFn (fun ds => G_l_any (ds ++ [])) (dCons (dVar 1) (dCons (dC (.int 1)) dNil))) dNil)))) dNil))))
  (dRetO (dCall listD (dCons (d2 getD' (dVarS 3) (d2 modD (dVarS 0) (dCall lenD (dCons (dVarS 3) dNil)))) dNil))))))))))))
def G_l_by_word : List D → Option Res := runD 4 g_l_by_word
def g_l_by_plus : DEnv → Option Out :=
  (dSeq (dSet 3 (dLst (dCons (d2 addD (d2 addD (dVarS 1) (dC (.str "+"))) (dVarS 1)) (dCons (d2 addD (d2 addD (dVarS 1) (dC (.str " +"))) (dVarS 1)) (dCons (d2 addD (d2 addD (dVarS 1) (dC (.str "+ "))) (dVarS 1)) (dCons (d2 addD (d2 addD (dVarS 1) (dC (.str "  + "))) (dVarS 1)) (dCons (d2 addD (d2 addD (dVarS 1) (dC (.str " +  "))) (dVarS 1)) (dCons (d2 addD (d2 addD (dVarS 1) (dC (.str " + + "))) (dVarS 1)) dNil))))))))
  (dSeq (dSet 3 (d2 addD (dVarS 3) (dLst (dCons (d2 addD (d2 addD (dVarS 1) (dC (.str " - "))) (dVarS 1)) (dCons (d2 addD (d2 addD (dVarS 1) (dC (.str " "))) (dVarS 1)) (dCons (d2 addD (d2 addD (d2 addD (dVarS 1) (dC (.str " + "))) (dVarS 1)) (dC (.str " + "))) (dCons (d2 addD (d2 addD (d2 addD (dC (.str " + ")) (dVarS 1)) (dC (.str " + "))) (dVarS 1)) dNil)))))))
  (dSeq (dSet 3 (d2 addD (dVarS 3) (dLst (dCons (d2 addD (d2 addD (d2 addD (d2 addD (dC (.str "(")) (dVarS 1)) (dC (.str ", "))) (dVarS 1)) (dC (.str ")"))) (dCons (d2 addD (d2 addD (d2 addD (dVarS 1) (dC (.str ", "))) (dVarS 1)) (dC (.str " "))) dNil)))))
  (dSeq (dSet 3 (d2 addD (dVarS 3) (dLst (dCons (d2 addD (d2 addD (dVarS 1) (dC (.str " + ("))) (dVarS 1)) (dCons (d2 addD (d2 addD (dVarS 1) (dC (.str " * "))) (dVarS 1)) (dCons (d2 addD (dC (.str "2 ")) (dVarS 1)) (dCons (d2 addD (d2 addD (dVarS 1) (dC (.str " + 0"))) (dVarS 1)) dNil)))))))
  (dRetO (dLst (dCons (d2 getD' (dVarS 3) (d2 modD (dVarS 0) (dCall lenD (dCons (dVarS 3) dNil)))) (dCons (d2 addD (d2 addD (dVarS 1) (dC (.str " + "))) (dVarS 1)) (dCons (dFn (fun ds => G_l_any (ds ++ [])) (dCons (dVar 1) (dCons (dC (.int 2)) dNil))) dNil)))))))))
def G_l_by_plus : List D → Option Res := runD 4 g_l_by_plus
def g_l_by_parts : DEnv → Option Out :=
  (dSeq (dSet 3 (dLst (dCons (d2 addD (d2 addD (d2 addD (dVarS 2) (dC (.str "(0, "))) (dVarS 1)) (dC (.str ")"))) (dCons (dFn (fun ds => G_l_of (ds ++ [])) (dCons (dVar 2) (dCons (dTup (dCons (dTup dNil) (dCons (dFn (fun ds => G_l_any (ds ++ [])) (dCons (dVar 1) (dCons (dC (.int 1)) dNil))) dNil))) dNil))) dNil))))
  (dSeq (dSet 4 (dLst (dCons (d2 addD (d2 addD (d2 addD (dVarS 2) (dC (.str "(0,"))) (dVarS 1)) (dC (.str ")"))) (dCons (d2 addD (d2 addD (d2 addD (dVarS 2) (dC (.str "(0 , "))) (dVarS 1)) (dC (.str ")"))) (dCons (d2 addD (d2 addD (d2 addD (dVarS 2) (dC (.str "(0,  "))) (dVarS 1)) (dC (.str ")"))) (dCons (d2 addD (d2 addD (d2 addD (dVarS 2) (dC (.str "( 0, "))) (dVarS 1)) (dC (.str ")"))) dNil))))))
  (dSeq (dSet 4 (d2 addD (dVarS 4) (dLst (dCons (d2 addD (d2 addD (d2 addD (dVarS 2) (dC (.str "(0, "))) (dVarS 1)) (dC (.str " )"))) (dCons (d2 addD (d2 addD (d2 addD (dVarS 2) (dC (.str "(, "))) (dVarS 1)) (dC (.str ")"))) (dCons (d2 addD (dVarS 2) (dC (.str "(0, )"))) (dCons (d2 addD (d2 addD (d2 addD (dVarS 2) (dC (.str " (0, "))) (dVarS 1)) (dC (.str ")"))) dNil)))))))
  (dSeq (dSet 4 (d2 addD (dVarS 4) (dLst (dCons (d2 addD (d2 addD (dVarS 2) (dC (.str "(0, "))) (dVarS 1)) (dCons (d2 addD (d2 addD (d2 addD (dVarS 2) (dC (.str "(0, "))) (dVarS 1)) (dC (.str "))"))) dNil)))))
  (dSeq (dSet 4 (d2 addD (dVarS 4) (dLst (dCons (d2 addD (d2 addD (d2 addD (d2 addD (d2 addD (dVarS 2) (dC (.str "(0, "))) (dVarS 1)) (dC (.str ")("))) (dVarS 1)) (dC (.str ")"))) (dCons (d2 addD (d2 addD (d2 addD (dVarS 2) (dC (.str "(0; "))) (dVarS 1)) (dC (.str ")"))) (dCons (d2 addD (d2 addD (d2 addD (dVarS 2) (dC (.str "(0 "))) (dVarS 1)) (dC (.str ")"))) (dCons (d2 addD (d2 addD (d2 addD (dVarS 2) (dC (.str "[0, "))) (dVarS 1)) (dC (.str "]"))) dNil)))))))
  (dSeq (dSet 4 (d2 addD (dVarS 4) (dLst (dCons (d2 addD (d2 addD (d2 addD (dVarS 2) (dC (.str "((0, "))) (dVarS 1)) (dC (.str "))"))) (dCons (d2 addD (d2 addD (d2 addD (dVarS 2) (dC (.str "(0, 0, 0, "))) (dVarS 1)) (dC (.str ")"))) (dCons (d2 addD (dVarS 2) (dC (.str "()"))) (dCons (d2 addD (d2 addD (d2 addD (dC (.str "(0, ")) (dVarS 1)) (dC (.str ")"))) (dVarS 2)) dNil)))))))
  (dSeq (dSet 4 (d2 addD (dVarS 4) (dLst (dCons (d2 addD (d2 addD (d2 addD (dVarS 2) (dC (.str "(0, "))) (dVarS 1)) (dC (.str ",)"))) dNil))))
  (dRetO (d2 addL (dLst (dCons (d2 getD' (dVarS 4) (d2 modD (dVarS 0) (dCall lenD (dCons (dVarS 4) dNil)))) dNil)) (dVarS 3))))))))))
def G_l_by_parts : List D → Option Res := runD 5 g_l_by_parts
def g_l_by_size : DEnv → Option Out :=
  (dSeq (dIfS (dTst (d2 eqD (d2 modD (dVarS 0) (dC (.int 3))) (dC (.int 0))))
    (dRetO (dLst (dCons (d2 addD (d2 addD (d2 mulSD (dC (.str "(")) (dC (.int 21))) (dVarS 1)) (d2 mulSD (dC (.str ")")) (dC (.int 21)))) (dCons (d2 addD (d2 addD (d2 mulSD (dC (.str "(")) (dC (.int 20))) (dVarS 1)) (d2 mulSD (dC (.str ")")) (dC (.int 20)))) (dCons (dFn (fun ds => G_l_any (ds ++ [])) (dCons (dVar 1) (dCons (dC (.int 1)) dNil))) dNil)))))
    dNx)
  (dSeq (dIfS (dTst (d2 eqD (d2 modD (dVarS 0) (dC (.int 3))) (dC (.int 1))))
    (dSeq (dSet 3 (dTup dNil))
  (dSeq (dFor (gN 4) (dItA rngD (dCons (dC (.int 20)) dNil))
    (dSet 3 (dFn (fun ds => G_l_of (ds ++ [])) (dCons (dVar 2) (dCons (dTup (dCons (dVar 3) dNil)) dNil)))))
  (dRetO (dLst (dCons (d2 addD (d2 addD (d2 mulSD (d2 addD (dVarS 2) (dC (.str "("))) (dC (.int 21))) (dC (.str "0"))) (d2 mulSD (dC (.str ")")) (dC (.int 21)))) (dCons (d2 addD (d2 addD (d2 mulSD (d2 addD (dVarS 2) (dC (.str "("))) (dC (.int 20))) (dC (.str "0"))) (d2 mulSD (dC (.str ")")) (dC (.int 20)))) (dCons (dVar 3) dNil)))))))
    dNx)
  (dRetO (dLst (dCons (d2 addD (d2 mulSD (dC (.str "a + ")) (dC (.int 149))) (dC (.str "abcde"))) (dCons (d2 addD (d2 mulSD (dC (.str "a + ")) (dC (.int 149))) (dC (.str "abcd"))) (dCons (dTup (dCons (dTup (dCons (dTup (dCons (dC (.str "any")) (dCons (dC (.str "a")) dNil))) (dCons (dC (.int 149)) dNil))) (dCons (dTup (dCons (dTup (dCons (dC (.str "any")) (dCons (dC (.str "abcd")) dNil))) (dCons (dC (.int 1)) dNil))) dNil))) dNil)))))))
def G_l_by_size : List D → Option Res := runD 5 g_l_by_size
def g_l_within : DEnv → Option Out :=
  (dSeq (dAsg (gL 3 (gCons' (gN 4) (gCons' (gN 5) (gCons' (gN 6) gNil')))) (dVar 3))
  (dSeq (dIfS (dTst (d2 eqD (dVarS 0) (dC (.int 0))))
    (dRetO (dLst (dCons (d2 addD (d2 addD (dC (.str "(")) (dVarS 4)) (dC (.str ")"))) (dCons (d2 addD (d2 addD (dC (.str "(")) (dVarS 5)) (dC (.str ")"))) (dCons (dVar 6) dNil)))))
    dNx)
  (dSeq (dIfS (dTst (d2 eqD (dVarS 0) (dC (.int 1))))
    (dRetO (dLst (dCons (d2 addD (d2 addD (d2 addD (dVarS 2) (dC (.str "("))) (dVarS 4)) (dC (.str ")"))) (dCons (d2 addD (d2 addD (d2 addD (dVarS 2) (dC (.str "("))) (dVarS 5)) (dC (.str ")"))) (dCons (dFn (fun ds => G_l_of (ds ++ [])) (dCons (dVar 2) (dCons (dTup (dCons (dVar 6) dNil)) dNil))) dNil)))))
    dNx)
  (dSeq (dIfS (dTst (d2 eqD (dVarS 0) (dC (.int 2))))
    (dRetO (dLst (dCons (d2 addD (d2 addD (d2 addD (dVarS 2) (dC (.str "(0, "))) (dVarS 4)) (dC (.str ")"))) (dCons (d2 addD (d2 addD (d2 addD (dVarS 2) (dC (.str "(0, "))) (dVarS 5)) (dC (.str ")"))) (dCons (dFn (fun ds => G_l_of (ds ++ [])) (dCons (dVar 2) (dCons (dTup (dCons (dTup dNil) (dCons (dVar 6) dNil))) dNil))) dNil)))))
    dNx)
  (dSeq (dIfS (dTst (d2 eqD (dVarS 0) (dC (.int 3))))
    (dRetO (dLst (dCons (d2 addD (d2 addD (d2 addD (d2 addD (d2 addD (dVarS 2) (dC (.str "("))) (dVarS 4)) (dC (.str ", "))) (dVarS 1)) (dC (.str ")"))) (dCons (d2 addD (d2 addD (d2 addD (d2 addD (d2 addD (dVarS 2) (dC (.str "("))) (dVarS 5)) (dC (.str ", "))) (dVarS 1)) (dC (.str ")"))) (dCons (dFn (fun ds => G_l_of (ds ++ [])) (dCons (dVar 2) (dCons (dTup (dCons (dVar 6) (dCons (dFn (fun ds => G_l_any (ds ++ [])) (dCons (dVar 1) (dCons (dC (.int 1)) dNil))) dNil))) dNil))) dNil)))))
    dNx)
  (dRetVar 3))))))
def G_l_within : List D → Option Res := runD 7 g_l_within
def g_l_pair : DEnv → Option Out :=
  (dSeq (dSet 4 (dFn (fun ds => G_l_pick (ds ++ [])) (dCons (dVar 0) (dCons (dVar 1) (dCons (dC (.int 1000003)) dNil)))))
  (dSeq (dSet 5 (dFn (fun ds => G_l_pick (ds ++ [])) (dCons (dVar 0) (dCons (d2 addD (dVarS 1) (dC (.int 1))) (dCons (dC (.int 5)) dNil)))))
  (dSeq (dIfS (dTst (d2 eqD (dVarS 5) (dC (.int 0))))
    (dRet (dFn (fun ds => G_l_by_size (ds ++ [])) (dCons (dVar 4) (dCons (dVar 2) (dCons (dVar 3) dNil)))))
    dNx)
  (dSeq (dSet 6 (dFn (fun ds => G_l_by_word (ds ++ [])) (dCons (dVar 4) (dCons (dVar 2) (dCons (dVar 3) dNil)))))
  (dSeq (dIfS (dTst (d2 eqD (dVarS 5) (dC (.int 1))))
    (dSet 6 (dFn (fun ds => G_l_by_number (ds ++ [])) (dCons (dVar 4) (dCons (dVar 2) (dCons (dVar 3) (dCons (d2 addD (dC (.int 2)) (d2 modD (dFn (fun ds => G_l_cell (ds ++ [])) (dCons (dVar 0) (dCons (dVar 1) dNil))) (d2 subD (d2 powD (dC (.int 10)) (dC (.int 18))) (dC (.int 2))))) dNil))))))
    dNx)
  (dSeq (dIfS (dTst (d2 eqD (dVarS 5) (dC (.int 2))))
    (dSet 6 (dFn (fun ds => G_l_by_plus (ds ++ [])) (dCons (dVar 4) (dCons (dVar 2) (dCons (dVar 3) dNil)))))
    dNx)
  (dSeq (dIfS (dTst (d2 eqD (dVarS 5) (dC (.int 3))))
    (dSet 6 (dFn (fun ds => G_l_by_parts (ds ++ [])) (dCons (dVar 4) (dCons (dVar 2) (dCons (dVar 3) dNil)))))
    dNx)
  (dRet (dFn (fun ds => G_l_within (ds ++ [])) (dCons (dFn (fun ds => G_l_pick (ds ++ [])) (dCons (dVar 0) (dCons (d2 addD (dVarS 1) (dC (.int 2))) (dCons (dC (.int 7)) dNil)))) (dCons (dVar 2) (dCons (dVar 3) (dCons (dVar 6) dNil)))))))))))))
def G_l_pair : List D → Option Res := runD 7 g_l_pair
def g_law (E : Errs) : DEnv → Option Out :=
  (dSeq (dSet 1 (d2 getD' (dFn (fun ds => G_l_unknowns (ds ++ [])) (dCons (dVar 0) (dCons (dC (.int 0)) dNil))) (dC (.int 0))))
  (dSeq (dSet 2 (d2 getD' (dFn (fun ds => G_l_signs (ds ++ [])) (dCons (dVar 0) (dCons (dC (.int 2)) dNil))) (dC (.int 0))))
  (dSeq (dFor (gN 3) (dItA rng3D (dCons (dC (.int 5)) (dCons (dCall maxD (dCons (dC (.int 17)) (dCons (dCall minD (dCons (dC (.int 59)) (dCons (dCall lenD (dCons (dVarS 0) dNil)) dNil))) dNil))) (dCons (dC (.int 3)) dNil))))
    (dSeq (dAsg (gL 3 (gCons' (gN 4) (gCons' (gN 5) (gCons' (gN 6) gNil')))) (dFn (fun ds => G_l_pair (ds ++ [])) (dCons (dVar 0) (dCons (dVar 3) (dCons (dVar 1) (dCons (dVar 2) dNil))))))
  (dIfS (dOr (dNot (dTst (dFn (fun ds => (G_l_refused E) (ds ++ [])) (dCons (dVar 4) dNil)))) (dOr (dNot (dTst (dFn (fun ds => (G_l_same 100) (ds ++ [])) (dCons (dFn (fun ds => (G_read E) (ds ++ [])) (dCons (dVar 5) dNil)) (dCons (dVar 6) dNil))))) (dNot (dTst (dFn (fun ds => (G_l_refused E) (ds ++ [])) (dCons (dVar 4) dNil))))))
    (dRet (dC (.bool false)))
    dNx)))
  (dSeq (dSet 7 (d2 modD (dFn (fun ds => G_l_cell (ds ++ [])) (dCons (dVar 0) (dCons (dC (.int 4)) dNil))) (dC (.int 1000))))
  (dSeq (dFor (gN 8) (dIt asLT (dLst (dCons (dC .none) (dCons (dVar 7) (dCons (dTup (dCons (dC (.str "a")) (dCons (dC (.str "b")) dNil))) (dCons (dLst (dCons (dC (.str "a")) dNil)) (dCons dDnew (dCons (dTup (dCons (dTup (dCons (dTup (dCons (dC (.str "any")) (dCons (dVar 1) dNil))) (dCons (dC (.int 1)) dNil))) dNil)) (dCons (dC (.bool true)) dNil)))))))))
    (dIfS (dNot (dTst (dFn (fun ds => (G_l_refused E) (ds ++ [])) (dCons (dVar 8) dNil))))
    (dRet (dC (.bool false)))
    dNx))
  (dRet (dC (.bool true))))))))
def G_law (E : Errs) : List D → Option Res := runD 9 (g_law E)
/-! ### the defs keep them -/
section
variable {P : Program} {w : World} {K : PySem.W.Frag} {mg : Str → Option Value} {base : Heap}
set_option maxRecDepth 100000 in
theorem ok_plus (T : Top K mg) : FnOk P w K mg base (L2.CX P w) 1 T.f_plus T.d_plus ["one", "other"] (spD K w 2 G_plus) :=
  fn_ok T.F_plus sc_plus rfl fun cdv A outer s H E hr =>
    (dss_cons (ds_setO (i := 2) sc_plus.nd rfl (Or.inl rfl) (de_callTy (call_dictO rfl hr.units) dictD_ne (by rfl) T.z_dict (by decide +kernel) (da_consS (de_varS 0) da_nil)))
    (dss_cons (ds_for (passes_of rfl) rfl (di_seq (de_var 1)) (dg_tup rfl (dgs_cons (dg_name (i := 3) sc_plus.nd rfl (Or.inl rfl)) (dgs_cons (dg_name (i := 4) sc_plus.nd rfl (Or.inl rfl)) dgs_nil)))
    (dss_one (ds_put (i := 2) hr.units (de_var 3) (de_op op_addV addD_ne (DE.toS (de_get hr (de_varS 2) (da_consV (de_var 3) (da_consV de_int da_nil)))) (de_varS 4)))))
    (dss_one (ds_ret (de_callTy call_tupleV tupleD_ne (by rfl) T.z_tuple (by decide +kernel) (da_consS (DE.oS (de_sortItems rfl hr (by rfl) T.z_sorted (de_varS 2))) da_nil))))))
set_option maxRecDepth 100000 in
theorem ok_times (T : Top K mg) : FnOk P w K mg base (L2.CX P w) 1 T.f_times T.d_times ["number", "form"] (spD K w 2 G_times) :=
  fn_ok T.F_times sc_times rfl fun cdv A outer s H E hr =>
    (dss_cons (ds_if (dt_cmp (op_eqV hr.units) eqD_ne (de_varS 0) (DE.toS de_int) (nomark _)) (dss_one (ds_ret (de_tup da_nil))) dss_nil)
    (dss_one (ds_ret (de_callTy call_tupleV tupleD_ne (by rfl) T.z_tuple (by decide +kernel) (da_consS (DE.oS (de_lc rfl sc_times.nd (di_seq (de_var 1)) (blkOk_by (own := [("item", 2), ("count", 3)]) (N := n_times) (sc := defScope s_times) (by decide +kernel)) (fun _ _ _ _ _ => (dg_tup rfl (dgs_cons (dg_name (i := 2) sc_times.nd rfl (Or.inl rfl)) (dgs_cons (dg_name (i := 3) sc_times.nd rfl (Or.inl rfl)) dgs_nil)))) (fun _ _ _ _ _ => dts_nil) (fun _ _ _ _ _ => (de_tup (da_consV (de_var 2) (da_consV (de_op op_mulV int2_ne (de_varS 0) (de_varS 3)) da_nil)))))) da_nil)))))
set_option maxRecDepth 100000 in
theorem ok_run_of (T : Top K mg) : FnOk P w K mg base (L2.CX P w) 1 T.f_run_of T.d_run_of ["text", "at", "some"] (spD K w 3 G_run_of) :=
  fn_ok T.F_run_of sc_run_of rfl fun cdv A outer s H E hr =>
    (dss_cons (ds_set (i := 3) sc_run_of.nd rfl (Or.inl rfl) (de_var 1))
    (dss_cons (ds_while 700 (passes_of rfl) (DW.dt (dw_and (dt_cmp op_ltV int2_ne (de_varS 3) (DE.toS (de_callB call_lenV lenD_ne (by rfl) T.z_len (by decide +kernel) (da_consS (de_varS 0) da_nil))) (nomark _)) (dw_and1 (dt_cmp op_inSV inSD_ne (DE.toS (de_ix (de_varS 0) (de_varS 3))) (de_varS 2) (by rfl)))))
    (dss_one (ds_aug (i := 3) iop_addV iaddD_ne sc_run_of.nd rfl (Or.inl rfl) (DE.toS de_int))))
    (dss_one (ds_ret (de_slice sl_V cutD_ne (de_varS 0) (do_some (de_var 1)) (do_some (de_var 3)))))))
set_option maxRecDepth 100000 in
theorem ok_word_at (T : Top K mg) : FnOk P w K mg base (L2.CX P w) 2 T.f_word_at T.d_word_at ["text", "at", "letters"] (spD K w 3 (G_word_at T.E)) :=
  fn_ok T.F_word_at sc_word_at rfl fun cdv A outer s H E hr =>
    (dss_cons (ds_set (i := 3) sc_word_at.nd rfl (Or.inl rfl) (de_call (ok_run_of T) (hr.mono (by decide)) (by rfl) T.m_run_of T.F_run_of.kp T.b_run_of .nil (fun _ => .nil) (takes_of rfl rfl rfl rfl) (da_consV (de_var 0) (da_consV (de_var 1) (da_consV (de_var 2) da_nil)))))
    (dss_cons (ds_if (DW.dt (dw_or (dt_cmp op_ltV int2_ne (DE.toS (de_callB call_lenV lenD_ne (by rfl) T.z_len (by decide +kernel) (da_consS (de_varS 3) da_nil))) (DE.toS de_int) (nomark _)) (dw_or1 (dt_cmp op_gtV int2_ne (DE.toS (de_callB call_lenV lenD_ne (by rfl) T.z_len (by decide +kernel) (da_consS (de_varS 3) da_nil))) (DE.toS (de_globI (by rfl) T.c_MOST_LETTERS.choose_spec)) (nomark _))))) (dss_one (ds_raise rfl (takes_of rfl rfl rfl rfl) (T.eo.xc "NoText" (by decide)) (T.eo.g "NoText" (by decide)) (by rfl))) dss_nil)
    (dss_one (ds_retVar 3))))
set_option maxRecDepth 100000 in
theorem ok_closed (T : Top K mg) : FnOk P w K mg base (L2.CX P w) 1 T.f_closed T.d_closed ["text", "at"] (spD K w 2 (G_closed T.E)) :=
  fn_ok T.F_closed sc_closed rfl fun cdv A outer s H E hr =>
    (dss_cons (ds_if (dt_cmp (op_neV hr.units) neD_ne (DE.toS (de_slice sl_V cutD_ne (de_varS 0) (do_some (de_var 1)) (do_some (de_op op_addV addD_ne (de_varS 1) (DE.toS de_int))))) (DE.toS de_str) (nomark _)) (dss_one (ds_raise rfl (takes_of rfl rfl rfl rfl) (T.eo.xc "NoText" (by decide)) (T.eo.g "NoText" (by decide)) (by rfl))) dss_nil)
    (dss_one (ds_ret (de_op op_addV addD_ne (de_varS 1) (DE.toS de_int)))))
set_option maxRecDepth 100000 in
theorem grp_thing_at (T : Top K mg) : ∀ n : Nat, FnOk P w K mg base (L2.CX P w) (2 + n) T.f_thing_at T.d_thing_at ["text", "at"] (spD K w 2 (G_thing_at T.E n)) ∧ FnOk P w K mg base (L2.CX P w) (2 + n) T.f_body_at T.d_body_at ["text", "at"] (spD K w 2 (G_body_at T.E n)) ∧ FnOk P w K mg base (L2.CX P w) (2 + n) T.f_part_at T.d_part_at ["text", "at"] (spD K w 2 (G_part_at T.E n)) ∧ FnOk P w K mg base (L2.CX P w) (2 + n) T.f_sum_at T.d_sum_at ["text", "at"] (spD K w 2 (G_sum_at T.E n))
  | 0 => ⟨⟨fun _ _ _ _ h => h.1, fun A outer s H args us vs Q E _ _ _ _ h => by obtain ⟨_, _, _, _, _, z⟩ := h; exact z.elim⟩, ⟨fun _ _ _ _ h => h.1, fun A outer s H args us vs Q E _ _ _ _ h => by obtain ⟨_, _, _, _, _, z⟩ := h; exact z.elim⟩, ⟨fun _ _ _ _ h => h.1, fun A outer s H args us vs Q E _ _ _ _ h => by obtain ⟨_, _, _, _, _, z⟩ := h; exact z.elim⟩, ⟨fun _ _ _ _ h => h.1, fun A outer s H args us vs Q E _ _ _ _ h => by obtain ⟨_, _, _, _, _, z⟩ := h; exact z.elim⟩⟩
  | n + 1 => by
    obtain ⟨ih_thing_at, ih_body_at, ih_part_at, ih_sum_at⟩ := grp_thing_at T n
    refine ⟨?_, ?_, ?_, ?_⟩
    · exact fn_ok T.F_thing_at sc_thing_at rfl fun cdv A outer s H E hr =>
      (dss_cons (ds_set (i := 2) sc_thing_at.nd rfl (Or.inl rfl) (de_call (ok_word_at T) (hr.mono (Nat.le_trans (show 2 ≤ 2 by decide) (Nat.le_add_right 2 _))) (by rfl) T.m_word_at T.F_word_at.kp T.b_word_at .nil (fun _ => .nil) (takes_of rfl rfl rfl rfl) (da_consV (de_var 0) (da_consV (de_var 1) (da_consV (de_globS (by rfl) T.c_CAPITAL.choose_spec) da_nil)))))
    (dss_cons (ds_aug (i := 1) iop_addV iaddD_ne sc_thing_at.nd rfl (Or.inl rfl) (DE.toS (de_callB call_lenV lenD_ne (by rfl) T.z_len (by decide +kernel) (da_consS (de_varS 2) da_nil))))
    (dss_cons (ds_setO (i := 3) sc_thing_at.nd rfl (Or.inl rfl) (de_lst da_nil))
    (dss_cons (ds_if (dt_cmp (op_eqV hr.units) eqD_ne (DE.toS (de_slice sl_V cutD_ne (de_varS 0) (do_some (de_var 1)) (do_some (de_op op_addV addD_ne (de_varS 1) (DE.toS de_int))))) (DE.toS de_str) (nomark _)) (dss_cons (ds_asg (dg_tup rfl (dgs_cons (dg_name (i := 4) sc_thing_at.nd rfl (Or.inl rfl)) (dgs_cons (dg_name (i := 1) sc_thing_at.nd rfl (Or.inl rfl)) dgs_nil))) (de_call ih_sum_at hr (by rfl) T.m_sum_at T.F_sum_at.kp T.b_sum_at .nil (fun _ => .nil) (takes_of rfl rfl rfl rfl) (da_consV (de_var 0) (da_consV (de_op op_addV addD_ne (de_varS 1) (DE.toS de_int)) da_nil))))
    (dss_cons (ds_append (i := 3) (de_var 4))
    (dss_cons (ds_while 5 (passes_of rfl) (DW.dt (dw_and (dt_cmp op_ltV int2_ne (DE.toS (de_callB call_lenV lenD_ne (by rfl) T.z_len (by decide +kernel) (da_consS (de_varS 3) da_nil))) (DE.toS de_int) (nomark _)) (dw_and1 (dt_cmp (op_eqV hr.units) eqD_ne (DE.toS (de_slice sl_V cutD_ne (de_varS 0) (do_some (de_var 1)) (do_some (de_op op_addV addD_ne (de_varS 1) (DE.toS de_int))))) (DE.toS de_str) (nomark _)))))
    (dss_cons (ds_asg (dg_tup rfl (dgs_cons (dg_name (i := 4) sc_thing_at.nd rfl (Or.inl rfl)) (dgs_cons (dg_name (i := 1) sc_thing_at.nd rfl (Or.inl rfl)) dgs_nil))) (de_call ih_sum_at hr (by rfl) T.m_sum_at T.F_sum_at.kp T.b_sum_at .nil (fun _ => .nil) (takes_of rfl rfl rfl rfl) (da_consV (de_var 0) (da_consV (de_op op_addV addD_ne (de_varS 1) (DE.toS de_int)) da_nil))))
    (dss_one (ds_append (i := 3) (de_var 4)))))
    (dss_one (ds_set (i := 1) sc_thing_at.nd rfl (Or.inl rfl) (de_call (ok_closed T) (hr.mono (Nat.le_trans (show 1 ≤ 2 by decide) (Nat.le_add_right 2 _))) (by rfl) T.m_closed T.F_closed.kp T.b_closed .nil (fun _ => .nil) (takes_of rfl rfl rfl rfl) (da_consV (de_var 0) (da_consV (de_var 1) da_nil)))))))) dss_nil)
    (dss_one (ds_ret (de_tup (da_consV (de_tup (da_consV (de_tup (da_consV (de_tup (da_consV de_str (da_consV (de_var 2) (da_consV (de_callTy call_tupleV tupleD_ne (by rfl) T.z_tuple (by decide +kernel) (da_consS (de_varS 3) da_nil)) da_nil)))) (da_consV de_int da_nil))) da_nil)) (da_consV (de_var 1) da_nil)))))))))
    · exact fn_ok T.F_body_at sc_body_at rfl fun cdv A outer s H E hr =>
      (dss_cons (ds_set (i := 2) sc_body_at.nd rfl (Or.inl rfl) (de_slice sl_V cutD_ne (de_varS 0) (do_some (de_var 1)) (do_some (de_op op_addV addD_ne (de_varS 1) (DE.toS de_int)))))
    (dss_cons (ds_if (dt_cmp (op_eqV hr.units) eqD_ne (de_varS 2) (DE.toS de_str) (nomark _)) (dss_cons (ds_asg (dg_tup rfl (dgs_cons (dg_name (i := 3) sc_body_at.nd rfl (Or.inl rfl)) (dgs_cons (dg_name (i := 1) sc_body_at.nd rfl (Or.inl rfl)) dgs_nil))) (de_call ih_sum_at hr (by rfl) T.m_sum_at T.F_sum_at.kp T.b_sum_at .nil (fun _ => .nil) (takes_of rfl rfl rfl rfl) (da_consV (de_var 0) (da_consV (de_op op_addV addD_ne (de_varS 1) (DE.toS de_int)) da_nil))))
    (dss_one (ds_ret (de_tup (da_consV (de_var 3) (da_consV (de_call (ok_closed T) (hr.mono (Nat.le_trans (show 1 ≤ 2 by decide) (Nat.le_add_right 2 _))) (by rfl) T.m_closed T.F_closed.kp T.b_closed .nil (fun _ => .nil) (takes_of rfl rfl rfl rfl) (da_consV (de_var 0) (da_consV (de_var 1) da_nil))) da_nil)))))) dss_nil)
    (dss_cons (ds_if (DW.dt (dw_and (dt_cmp (op_neV hr.units) neD_ne (de_varS 2) (DE.toS de_str) (nomark _)) (dw_and1 (dt_cmp op_inSV inSD_ne (de_varS 2) (DE.toS (de_globS (by rfl) T.c_SMALL.choose_spec)) (by rfl))))) (dss_cons (ds_set (i := 4) sc_body_at.nd rfl (Or.inl rfl) (de_call (ok_word_at T) (hr.mono (Nat.le_trans (show 2 ≤ 2 by decide) (Nat.le_add_right 2 _))) (by rfl) T.m_word_at T.F_word_at.kp T.b_word_at .nil (fun _ => .nil) (takes_of rfl rfl rfl rfl) (da_consV (de_var 0) (da_consV (de_var 1) (da_consV (de_globS (by rfl) T.c_SMALL.choose_spec) da_nil)))))
    (dss_one (ds_ret (de_tup (da_consV (de_tup (da_consV (de_tup (da_consV (de_tup (da_consV de_str (da_consV (de_var 4) da_nil))) (da_consV de_int da_nil))) da_nil)) (da_consV (de_op op_addV addD_ne (de_varS 1) (DE.toS (de_callB call_lenV lenD_ne (by rfl) T.z_len (by decide +kernel) (da_consS (de_varS 4) da_nil)))) da_nil)))))) dss_nil)
    (dss_one (ds_ret (de_call ih_thing_at hr (by rfl) T.m_thing_at T.F_thing_at.kp T.b_thing_at .nil (fun _ => .nil) (takes_of rfl rfl rfl rfl) (da_consV (de_var 0) (da_consV (de_var 1) da_nil))))))))
    · exact fn_ok T.F_part_at sc_part_at rfl fun cdv A outer s H E hr =>
      (dss_cons (ds_set (i := 2) sc_part_at.nd rfl (Or.inl rfl) (de_call (ok_run_of T) (hr.mono (Nat.le_trans (show 1 ≤ 2 by decide) (Nat.le_add_right 2 _))) (by rfl) T.m_run_of T.F_run_of.kp T.b_run_of .nil (fun _ => .nil) (takes_of rfl rfl rfl rfl) (da_consV (de_var 0) (da_consV (de_var 1) (da_consV (de_globS (by rfl) T.c_FIGURES.choose_spec) da_nil)))))
    (dss_cons (ds_if (dt_cmp (op_eqV hr.units) eqD_ne (de_varS 2) (DE.toS de_str) (nomark _)) (dss_one (ds_ret (de_tup (da_consV (de_tup da_nil) (da_consV (de_op op_addV addD_ne (de_varS 1) (DE.toS de_int)) da_nil))))) dss_nil)
    (dss_cons (ds_if (dt_cmp (op_eqV hr.units) eqD_ne (de_varS 2) (DE.toS de_str) (nomark _)) (dss_one (ds_ret (de_call ih_body_at hr (by rfl) T.m_body_at T.F_body_at.kp T.b_body_at .nil (fun _ => .nil) (takes_of rfl rfl rfl rfl) (da_consV (de_var 0) (da_consV (de_var 1) da_nil))))) dss_nil)
    (dss_cons (ds_if (DW.dt (dw_or (dt_cmp (op_eqV hr.units) eqD_ne (DE.toS (de_ix (de_varS 2) (DE.toS de_int))) (DE.toS de_str) (nomark _)) (dw_or1 (dt_cmp op_gtV int2_ne (DE.toS (de_callB call_lenV lenD_ne (by rfl) T.z_len (by decide +kernel) (da_consS (de_varS 2) da_nil))) (DE.toS (de_globI (by rfl) T.c_MOST_FIGURES.choose_spec)) (nomark _))))) (dss_one (ds_raise rfl (takes_of rfl rfl rfl rfl) (T.eo.xc "NoText" (by decide)) (T.eo.g "NoText" (by decide)) (by rfl))) dss_nil)
    (dss_cons (ds_asg (dg_tup rfl (dgs_cons (dg_name (i := 3) sc_part_at.nd rfl (Or.inl rfl)) (dgs_cons (dg_name (i := 4) sc_part_at.nd rfl (Or.inl rfl)) dgs_nil))) (de_call ih_body_at hr (by rfl) T.m_body_at T.F_body_at.kp T.b_body_at .nil (fun _ => .nil) (takes_of rfl rfl rfl rfl) (da_consV (de_var 0) (da_consV (de_op op_addV addD_ne (de_varS 1) (DE.toS (de_callB call_lenV lenD_ne (by rfl) T.z_len (by decide +kernel) (da_consS (de_varS 2) da_nil)))) da_nil))))
    (dss_one (ds_ret (de_tup (da_consV (de_call (ok_times T) (hr.mono (Nat.le_trans (show 1 ≤ 2 by decide) (Nat.le_add_right 2 _))) (by rfl) T.m_times T.F_times.kp T.b_times .nil (fun _ => .nil) (takes_of rfl rfl rfl rfl) (da_consV (de_callTy call_intSV intSD_ne (by rfl) T.z_int (by decide +kernel) (da_consS (de_varS 2) da_nil)) (da_consV (de_var 3) da_nil))) (da_consV (de_var 4) da_nil))))))))))
    · exact fn_ok T.F_sum_at sc_sum_at rfl fun cdv A outer s H E hr =>
      (dss_cons (ds_asg (dg_tup rfl (dgs_cons (dg_name (i := 2) sc_sum_at.nd rfl (Or.inl rfl)) (dgs_cons (dg_name (i := 1) sc_sum_at.nd rfl (Or.inl rfl)) dgs_nil))) (de_call ih_part_at hr (by rfl) T.m_part_at T.F_part_at.kp T.b_part_at .nil (fun _ => .nil) (takes_of rfl rfl rfl rfl) (da_consV (de_var 0) (da_consV (de_var 1) da_nil))))
    (dss_cons (ds_while 200 (passes_of rfl) (dt_cmp (op_eqV hr.units) eqD_ne (DE.toS (de_slice sl_V cutD_ne (de_varS 0) (do_some (de_var 1)) (do_some (de_op op_addV addD_ne (de_varS 1) (DE.toS de_int))))) (DE.toS de_str) (nomark _))
    (dss_cons (ds_asg (dg_tup rfl (dgs_cons (dg_name (i := 3) sc_sum_at.nd rfl (Or.inl rfl)) (dgs_cons (dg_name (i := 1) sc_sum_at.nd rfl (Or.inl rfl)) dgs_nil))) (de_call ih_part_at hr (by rfl) T.m_part_at T.F_part_at.kp T.b_part_at .nil (fun _ => .nil) (takes_of rfl rfl rfl rfl) (da_consV (de_var 0) (da_consV (de_op op_addV addD_ne (de_varS 1) (DE.toS de_int)) da_nil))))
    (dss_one (ds_set (i := 2) sc_sum_at.nd rfl (Or.inl rfl) (de_call (ok_plus T) (hr.mono (Nat.le_trans (show 1 ≤ 2 by decide) (Nat.le_add_right 2 _))) (by rfl) T.m_plus T.F_plus.kp T.b_plus .nil (fun _ => .nil) (takes_of rfl rfl rfl rfl) (da_consV (de_var 2) (da_consV (de_var 3) da_nil)))))))
    (dss_one (ds_ret (de_tup (da_consV (de_var 2) (da_consV (de_var 1) da_nil)))))))
theorem ok_thing_at (T : Top K mg) (n : Nat) : FnOk P w K mg base (L2.CX P w) (2 + n) T.f_thing_at T.d_thing_at ["text", "at"] (spD K w 2 (G_thing_at T.E n)) := (grp_thing_at T n).1
theorem ok_body_at (T : Top K mg) (n : Nat) : FnOk P w K mg base (L2.CX P w) (2 + n) T.f_body_at T.d_body_at ["text", "at"] (spD K w 2 (G_body_at T.E n)) := (grp_thing_at T n).2.1
theorem ok_part_at (T : Top K mg) (n : Nat) : FnOk P w K mg base (L2.CX P w) (2 + n) T.f_part_at T.d_part_at ["text", "at"] (spD K w 2 (G_part_at T.E n)) := (grp_thing_at T n).2.2.1
theorem ok_sum_at (T : Top K mg) (n : Nat) : FnOk P w K mg base (L2.CX P w) (2 + n) T.f_sum_at T.d_sum_at ["text", "at"] (spD K w 2 (G_sum_at T.E n)) := (grp_thing_at T n).2.2.2
set_option maxRecDepth 100000 in
theorem ok_ask_text (T : Top K mg) : FnOk P w K mg base (L2.CX P w) 1 T.f_ask_text T.d_ask_text ["text"] (spD K w 1 (G_ask_text T.E)) :=
  fn_ok T.F_ask_text sc_ask_text rfl fun cdv A outer s H E hr =>
    (dss_cons (ds_if (DW.dt (dw_or (dt_not (dt_val (de_isiX (T := "str") (by rfl) T.z_isinstance (by rfl) T.z_str (by decide +kernel) (de_varS 0)))) (dw_or1 (dt_cmp op_gtV int2_ne (DE.toS (de_callB call_lenV lenD_ne (by rfl) T.z_len (by decide +kernel) (da_consS (de_varS 0) da_nil))) (DE.toS (de_globI (by rfl) T.c_MOST_SIGNS.choose_spec)) (nomark _))))) (dss_one (ds_raise rfl (takes_of rfl rfl rfl rfl) (T.eo.xc "NoText" (by decide)) (T.eo.g "NoText" (by decide)) (by rfl))) dss_nil)
    (dss_cons (ds_set (i := 1) sc_ask_text.nd rfl (Or.inl rfl) de_int)
    (dss_one (ds_for (passes_of rfl) rfl (di_str (de_var 0)) (dg_name (i := 2) sc_ask_text.nd rfl (Or.inl rfl))
    (dss_cons (ds_if (dt_cmp (op_eqV hr.units) eqD_ne (de_varS 2) (DE.toS de_str) (nomark _)) (dss_one (ds_aug (i := 1) iop_addV iaddD_ne sc_ask_text.nd rfl (Or.inl rfl) (DE.toS de_int))) dss_nil)
    (dss_cons (ds_if (dt_cmp (op_eqV hr.units) eqD_ne (de_varS 2) (DE.toS de_str) (nomark _)) (dss_one (ds_aug (i := 1) iop_subV int2_ne sc_ask_text.nd rfl (Or.inl rfl) (DE.toS de_int))) dss_nil)
    (dss_one (ds_if (dt_cmp op_gtV int2_ne (de_varS 1) (DE.toS (de_globI (by rfl) T.c_MOST_DEEP.choose_spec)) (nomark _)) (dss_one (ds_raise rfl (takes_of rfl rfl rfl rfl) (T.eo.xc "NoText" (by decide)) (T.eo.g "NoText" (by decide)) (by rfl))) dss_nil))))))))
set_option maxRecDepth 100000 in
theorem ok_read (T : Top K mg) : FnOk P w K mg base (L2.CX P w) 93 T.f_read T.d_read ["text"] (spD K w 1 (G_read T.E)) :=
  fn_ok T.F_read sc_read rfl fun cdv A outer s H E hr =>
    (dss_cons (ds_expr (DE.toS (de_call (ok_ask_text T) (hr.mono (by decide)) (by rfl) T.m_ask_text T.F_ask_text.kp T.b_ask_text .nil (fun _ => .nil) (takes_of rfl rfl rfl rfl) (da_consV (de_var 0) da_nil))))
    (dss_cons (ds_asg (dg_tup rfl (dgs_cons (dg_name (i := 1) sc_read.nd rfl (Or.inl rfl)) (dgs_cons (dg_name (i := 2) sc_read.nd rfl (Or.inl rfl)) dgs_nil))) (de_call (ok_sum_at T 90) (hr.mono (by decide)) (by rfl) T.m_sum_at T.F_sum_at.kp T.b_sum_at .nil (fun _ => .nil) (takes_of rfl rfl rfl rfl) (da_consV (de_var 0) (da_consV de_int da_nil))))
    (dss_cons (ds_if (dt_cmp (op_neV hr.units) neD_ne (de_varS 2) (DE.toS (de_callB call_lenV lenD_ne (by rfl) T.z_len (by decide +kernel) (da_consS (de_varS 0) da_nil))) (nomark _)) (dss_one (ds_raise rfl (takes_of rfl rfl rfl rfl) (T.eo.xc "NoText" (by decide)) (T.eo.g "NoText" (by decide)) (by rfl))) dss_nil)
    (dss_one (ds_retVar 1)))))
set_option maxRecDepth 100000 in
theorem ok_l_cell (T : Top K mg) : FnOk P w K mg base (L2.CX P w) 1 T.f_l_cell T.d_l_cell ["_law_script", "_law_k"] (spD K w 2 G_l_cell) :=
  fn_ok T.F_l_cell sc_l_cell rfl fun cdv A outer s H E hr =>
    (dss_cons (ds_if (dt_cmp op_ltV int2_ne (de_varS 1) (DE.toS (de_callB call_lenV lenD_ne (by rfl) T.z_len (by decide +kernel) (da_consS (de_varS 0) da_nil))) (nomark _)) (dss_one (ds_ret (de_ix (de_varS 0) (de_varS 1)))) dss_nil)
    (dss_cons (ds_set (i := 2) sc_l_cell.nd rfl (Or.inl rfl) (de_op op_addV addD_ne (DE.toS (de_op op_mulV int2_ne (de_varS 1) (DE.toS de_int))) (DE.toS de_int)))
    (dss_cons (ds_if (dt_cmp op_gtV int2_ne (DE.toS (de_callB call_lenV lenD_ne (by rfl) T.z_len (by decide +kernel) (da_consS (de_varS 0) da_nil))) (DE.toS de_int) (nomark _)) (dss_one (ds_set (i := 2) sc_l_cell.nd rfl (Or.inl rfl) (de_op op_addV addD_ne (DE.toS (de_op op_addV addD_ne (DE.toS (de_op op_mulV int2_ne (DE.toS (de_op op_modV int2_ne (DE.toS (de_ix (de_varS 0) (DE.toS (de_op op_modV int2_ne (de_varS 1) (DE.toS (de_callB call_lenV lenD_ne (by rfl) T.z_len (by decide +kernel) (da_consS (de_varS 0) da_nil))))))) (DE.toS de_int))) (DE.toS de_int))) (DE.toS (de_op op_mulV int2_ne (DE.toS (de_op op_mulV int2_ne (de_varS 1) (de_varS 1))) (DE.toS de_int))))) (DE.toS de_int)))) dss_nil)
    (dss_one (ds_ret (de_op op_modV int2_ne (DE.toS (de_op op_mulV int2_ne (de_varS 2) (de_varS 2))) (DE.toS de_int)))))))
set_option maxRecDepth 100000 in
theorem ok_l_pick (T : Top K mg) : FnOk P w K mg base (L2.CX P w) 2 T.f_l_pick T.d_l_pick ["_law_script", "_law_k", "_law_many"] (spD K w 3 G_l_pick) :=
  fn_ok T.F_l_pick sc_l_pick rfl fun cdv A outer s H E hr =>
    (dss_cons (ds_set (i := 3) sc_l_pick.nd rfl (Or.inl rfl) (de_op op_addV addD_ne (DE.toS (de_op op_mulV int2_ne (DE.toS (de_op op_modV int2_ne (DE.toS (de_call (ok_l_cell T) (hr.mono (by decide)) (by rfl) T.m_l_cell T.F_l_cell.kp T.b_l_cell .nil (fun _ => .nil) (takes_of rfl rfl rfl rfl) (da_consV (de_var 0) (da_consV (de_var 1) da_nil)))) (DE.toS de_int))) (DE.toS (de_op op_addV addD_ne (DE.toS de_int) (DE.toS (de_op op_mulV int2_ne (DE.toS de_int) (de_varS 1))))))) (DE.toS (de_op op_mulV int2_ne (DE.toS de_int) (de_varS 1)))))
    (dss_one (ds_ret (de_op op_modV int2_ne (DE.toS (de_op op_divV int2_ne (DE.toS (de_op op_modV int2_ne (de_varS 3) (DE.toS de_int))) (DE.toS de_int))) (de_varS 2)))))
set_option maxRecDepth 100000 in
theorem ok_l_names (T : Top K mg) : FnOk P w K mg base (L2.CX P w) 3 T.f_l_names T.d_l_names ["_law_script", "_law_k", "_law_letters"] (spD K w 3 G_l_names) :=
  fn_ok T.F_l_names sc_l_names rfl fun cdv A outer s H E hr =>
    (dss_cons (ds_set (i := 3) sc_l_names.nd rfl (Or.inl rfl) de_str)
    (dss_cons (ds_for (passes_of rfl) rfl (di_range1 (by rfl) T.z_range (da_consV (de_call (ok_l_pick T) (hr.mono (by decide)) (by rfl) T.m_l_pick T.F_l_pick.kp T.b_l_pick .nil (fun _ => .nil) (takes_of rfl rfl rfl rfl) (da_consV (de_var 0) (da_consV (de_var 1) (da_consV de_int da_nil)))) da_nil)) (dg_name (i := 4) sc_l_names.nd rfl (Or.inl rfl))
    (dss_one (ds_set (i := 3) sc_l_names.nd rfl (Or.inl rfl) (de_op op_addV addD_ne (de_varS 3) (DE.toS (de_ix (de_varS 2) (DE.toS (de_call (ok_l_pick T) (hr.mono (by decide)) (by rfl) T.m_l_pick T.F_l_pick.kp T.b_l_pick .nil (fun _ => .nil) (takes_of rfl rfl rfl rfl) (da_consV (de_var 0) (da_consV (de_op op_addV addD_ne (DE.toS (de_op op_addV addD_ne (de_varS 1) (DE.toS (de_op op_mulV int2_ne (DE.toS de_int) (de_varS 4))))) (DE.toS de_int)) (da_consV de_int da_nil)))))))))))
    (dss_cons (ds_set (i := 5) sc_l_names.nd rfl (Or.inl rfl) (de_call (ok_l_pick T) (hr.mono (by decide)) (by rfl) T.m_l_pick T.F_l_pick.kp T.b_l_pick .nil (fun _ => .nil) (takes_of rfl rfl rfl rfl) (da_consV (de_var 0) (da_consV (de_op op_addV addD_ne (de_varS 1) (DE.toS de_int)) (da_consV (de_op op_addV addD_ne (DE.toS (de_callB call_lenV lenD_ne (by rfl) T.z_len (by decide +kernel) (da_consS (de_varS 3) da_nil))) (DE.toS de_int)) da_nil)))))
    (dss_cons (ds_set (i := 6) sc_l_names.nd rfl (Or.inl rfl) (de_call (ok_l_pick T) (hr.mono (by decide)) (by rfl) T.m_l_pick T.F_l_pick.kp T.b_l_pick .nil (fun _ => .nil) (takes_of rfl rfl rfl rfl) (da_consV (de_var 0) (da_consV (de_op op_addV addD_ne (de_varS 1) (DE.toS de_int)) (da_consV de_int da_nil)))))
    (dss_cons (ds_if (dt_cmp (op_eqV hr.units) eqD_ne (DE.toS (de_call (ok_l_pick T) (hr.mono (by decide)) (by rfl) T.m_l_pick T.F_l_pick.kp T.b_l_pick .nil (fun _ => .nil) (takes_of rfl rfl rfl rfl) (da_consV (de_var 0) (da_consV (de_op op_addV addD_ne (de_varS 1) (DE.toS de_int)) (da_consV de_int da_nil))))) (DE.toS de_int) (nomark _)) (dss_cons (ds_set (i := 3) sc_l_names.nd rfl (Or.inl rfl) (de_op op_addV addD_ne (DE.toS (de_slice sl_V cutD_ne (de_varS 3) do_none (do_some de_int))) (DE.toS (de_ix (de_varS 2) (de_varS 6)))))
    (dss_one (ds_retO (de_lst (da_consV (de_var 3) (da_consV (de_op op_addV addD_ne (de_varS 3) (DE.toS (de_ix (de_varS 2) (de_varS 5)))) (da_consV (de_op op_addV addD_ne (DE.toS (de_op op_addV addD_ne (de_varS 3) (DE.toS (de_ix (de_varS 2) (de_varS 5))))) (DE.toS (de_ix (de_varS 2) (de_varS 6)))) da_nil))))))) dss_nil)
    (dss_cons (ds_setO (i := 7) sc_l_names.nd rfl (Or.inl rfl) (de_lst da_nil))
    (dss_cons (ds_for (passes_of rfl) rfl (di_range1 (by rfl) T.z_range (da_consV de_int da_nil)) (dg_name (i := 4) sc_l_names.nd rfl (Or.inl rfl))
    (dss_cons (ds_set (i := 8) sc_l_names.nd rfl (Or.inl rfl) (de_ix (de_varS 2) (DE.toS (de_op op_modV int2_ne (DE.toS (de_op op_addV addD_ne (de_varS 6) (DE.toS (de_op op_mulV int2_ne (DE.toS de_int) (de_varS 4))))) (DE.toS de_int)))))
    (dss_one (ds_append (i := 7) (de_op op_addV addD_ne (DE.toS (de_op op_addV addD_ne (DE.toS (de_slice sl_V cutD_ne (de_varS 3) do_none (do_some (de_var 5)))) (de_varS 8))) (DE.toS (de_slice sl_V cutD_ne (de_varS 3) (do_some (de_var 5)) do_none)))))))
    (dss_one (ds_retVar 7)))))))))
set_option maxRecDepth 100000 in
theorem ok_l_unknowns (T : Top K mg) : FnOk P w K mg base (L2.CX P w) 4 T.f_l_unknowns T.d_l_unknowns ["_law_script", "_law_k"] (spD K w 2 G_l_unknowns) :=
  fn_ok T.F_l_unknowns sc_l_unknowns rfl fun cdv A outer s H E hr =>
    (dss_one (ds_ret (de_call (ok_l_names T) (hr.mono (by decide)) (by rfl) T.m_l_names T.F_l_names.kp T.b_l_names .nil (fun _ => .nil) (takes_of rfl rfl rfl rfl) (da_consV (de_var 0) (da_consV (de_var 1) (da_consV de_str da_nil))))))
set_option maxRecDepth 100000 in
theorem ok_l_signs (T : Top K mg) : FnOk P w K mg base (L2.CX P w) 4 T.f_l_signs T.d_l_signs ["_law_script", "_law_k"] (spD K w 2 G_l_signs) :=
  fn_ok T.F_l_signs sc_l_signs rfl fun cdv A outer s H E hr =>
    (dss_one (ds_ret (de_call (ok_l_names T) (hr.mono (by decide)) (by rfl) T.m_l_names T.F_l_names.kp T.b_l_names .nil (fun _ => .nil) (takes_of rfl rfl rfl rfl) (da_consV (de_var 0) (da_consV (de_var 1) (da_consV de_str da_nil))))))
set_option maxRecDepth 100000 in
theorem grp_l_same (T : Top K mg) : ∀ n : Nat, FnOk P w K mg base (L2.CX P w) (0 + n) T.f_l_same T.d_l_same ["_law_found", "_law_due"] (spD K w 2 (G_l_same n))
  | 0 => ⟨fun _ _ _ _ h => h.1, fun A outer s H args us vs Q E _ _ _ _ h => by obtain ⟨_, _, _, _, _, z⟩ := h; exact z.elim⟩
  | n + 1 => by
    have ih_l_same := grp_l_same T n
    exact fn_ok T.F_l_same sc_l_same rfl fun cdv A outer s H E hr =>
      (dss_cons (ds_if (dt_val (de_isi (T := "str") (by rfl) T.z_isinstance (by rfl) T.z_str (by decide +kernel) (de_varS 1))) (dss_one (ds_ret (de_and (de_isi (T := "str") (by rfl) T.z_isinstance (by rfl) T.z_str (by decide +kernel) (de_varS 0)) (de_one (de_cmp (op_eqV hr.units) eqD_ne (de_varS 0) (de_varS 1) (nomark _)))))) dss_nil)
    (dss_cons (ds_if (dt_val (de_isi (T := "int") (by rfl) T.z_isinstance (by rfl) T.z_int (by decide +kernel) (de_varS 1))) (dss_one (ds_ret (de_and (de_isi (T := "int") (by rfl) T.z_isinstance (by rfl) T.z_int (by decide +kernel) (de_varS 0)) (de_and (de_not (de_isi (T := "bool") (by rfl) T.z_isinstance (by rfl) T.z_bool (by decide +kernel) (de_varS 0))) (de_one (de_cmp (op_eqV hr.units) eqD_ne (de_varS 0) (de_varS 1) (nomark _))))))) dss_nil)
    (dss_cons (ds_if (DW.dt (dw_or (dt_cmp (op_neV hr.units) neD_ne (DE.toS (de_isi (T := "list") (by rfl) T.z_isinstance (by rfl) T.z_list (by decide +kernel) (de_varS 1))) (DE.toS (de_isi (T := "list") (by rfl) T.z_isinstance (by rfl) T.z_list (by decide +kernel) (de_varS 0))) (nomark _)) (dw_or1 (dt_cmp (op_neV hr.units) neD_ne (DE.toS (de_isi (T := "tuple") (by rfl) T.z_isinstance (by rfl) T.z_tuple (by decide +kernel) (de_varS 1))) (DE.toS (de_isi (T := "tuple") (by rfl) T.z_isinstance (by rfl) T.z_tuple (by decide +kernel) (de_varS 0))) (nomark _))))) (dss_one (ds_ret de_bl)) dss_nil)
    (dss_cons (ds_if (dt_cmp (op_neV hr.units) neD_ne (DE.toS (de_callB call_lenV lenD_ne (by rfl) T.z_len (by decide +kernel) (da_consS (de_varS 0) da_nil))) (DE.toS (de_callB call_lenV lenD_ne (by rfl) T.z_len (by decide +kernel) (da_consS (de_varS 1) da_nil))) (nomark _)) (dss_one (ds_ret de_bl)) dss_nil)
    (dss_cons (ds_for (passes_of rfl) rfl (di_zipX (by rfl) T.z_zip (da_consV (de_var 0) (da_consV (de_var 1) da_nil))) (dg_tup rfl (dgs_cons (dg_name (i := 2) sc_l_same.nd rfl (Or.inl rfl)) (dgs_cons (dg_name (i := 3) sc_l_same.nd rfl (Or.inl rfl)) dgs_nil)))
    (dss_one (ds_if (dt_not (dt_val (de_call ih_l_same hr (by rfl) T.m_l_same T.F_l_same.kp T.b_l_same .nil (fun _ => .nil) (takes_of rfl rfl rfl rfl) (da_consV (de_var 2) (da_consV (de_var 3) da_nil))))) (dss_one (ds_ret de_bl)) dss_nil)))
    (dss_one (ds_ret de_bl)))))))
theorem ok_l_same (T : Top K mg) (n : Nat) : FnOk P w K mg base (L2.CX P w) (0 + n) T.f_l_same T.d_l_same ["_law_found", "_law_due"] (spD K w 2 (G_l_same n)) := grp_l_same T n
set_option maxRecDepth 100000 in
theorem ok_l_refused (T : Top K mg) : FnOk P w K mg base (L2.CX P w) 94 T.f_l_refused T.d_l_refused ["_law_thing"] (spD K w 1 (G_l_refused T.E)) :=
  fn_ok T.F_l_refused sc_l_refused rfl fun cdv A outer s H E hr =>
    (dss_cons (ds_try (i := 1) rfl rfl sc_l_refused.nd rfl rfl ⟨by rfl, by decide, .inl (T.eo.g "MixError" (by decide))⟩ (takes_of rfl rfl rfl rfl) T.eo.catches (fun W pn xe tk pp => (dss_one (ds_expr (DE.toS (de_call (ok_read T) (hr.mono (by decide)) (by rfl) T.m_read T.F_read.kp T.b_read .nil (fun _ => .nil) tk (da_consV (de_var 0) da_nil))))))
    (fun a oe cls pn hz hf hcl => (dss_cons (ds_set (i := 2) sc_l_refused.nd rfl (Or.inl rfl) (DE.toV (de_lst (da_consV (de_isOwn (m := "NoText") T.eo hcl hz hf (by decide) (by rfl) T.z_isinstance (by rfl) (by decide) (i := 1) rfl (by first | exact Or.inl rfl | exact Or.inr (Or.inl rfl) | exact Or.inr (Or.inr rfl)) (by decide) (by decide) (by rfl) (by rfl) (by rfl)) (da_consV (de_isVE T.eo hcl hz hf (by rfl) T.z_isinstance (by rfl) T.z_ValueError (i := 1) rfl (by first | exact Or.inl rfl | exact Or.inr (Or.inl rfl) | exact Or.inr (Or.inr rfl)) (by decide) (by decide) (by rfl) (by rfl) (by rfl)) (da_consV (de_isOwn (m := "TooMany") T.eo hcl hz hf (by decide) (by rfl) T.z_isinstance (by rfl) (by decide) (i := 1) rfl (by first | exact Or.inl rfl | exact Or.inr (Or.inl rfl) | exact Or.inr (Or.inr rfl)) (by decide) (by decide) (by rfl) (by rfl) (by rfl)) da_nil))))))
    (dss_one (ds_ret (de_cmp (op_eqV hr.units) eqD_ne (DE.toS (de_op op_addV addD_ne (de_varS 2) (DE.oS (de_lst (da_consV (de_isOwn (m := "NoRow") T.eo hcl hz hf (by decide) (by rfl) T.z_isinstance (by rfl) (by decide) (i := 1) rfl (by first | exact Or.inl rfl | exact Or.inr (Or.inl rfl) | exact Or.inr (Or.inr rfl)) (by decide) (by decide) (by rfl) (by rfl) (by rfl)) (da_consV (de_isOwn (m := "NoRule") T.eo hcl hz hf (by decide) (by rfl) T.z_isinstance (by rfl) (by decide) (i := 1) rfl (by first | exact Or.inl rfl | exact Or.inr (Or.inl rfl) | exact Or.inr (Or.inr rfl)) (by decide) (by decide) (by rfl) (by rfl) (by rfl)) da_nil)))))) (DE.oS (de_lst (da_consV de_bl (da_consV de_bl (da_consV de_bl (da_consV de_bl (da_consV de_bl da_nil))))))) (nomark _)))))))
    (dss_one (ds_ret de_bl)))
set_option maxRecDepth 100000 in
theorem ok_l_any (T : Top K mg) : FnOk P w K mg base (L2.CX P w) 1 T.f_l_any T.d_l_any ["_law_name", "_law_count"] (spD K w 2 G_l_any) :=
  fn_ok T.F_l_any sc_l_any rfl fun cdv A outer s H E hr =>
    (dss_one (ds_ret (de_tup (da_consV (de_tup (da_consV (de_tup (da_consV de_str (da_consV (de_var 0) da_nil))) (da_consV (de_var 1) da_nil))) da_nil))))
set_option maxRecDepth 100000 in
theorem ok_l_of (T : Top K mg) : FnOk P w K mg base (L2.CX P w) 1 T.f_l_of T.d_l_of ["_law_sign", "_law_parts"] (spD K w 2 G_l_of) :=
  fn_ok T.F_l_of sc_l_of rfl fun cdv A outer s H E hr =>
    (dss_one (ds_ret (de_tup (da_consV (de_tup (da_consV (de_tup (da_consV de_str (da_consV (de_var 0) (da_consV (de_var 1) da_nil)))) (da_consV de_int da_nil))) da_nil))))
set_option maxRecDepth 100000 in
theorem ok_l_by_number (T : Top K mg) : FnOk P w K mg base (L2.CX P w) 2 T.f_l_by_number T.d_l_by_number ["_law_way", "_law_x", "_law_s", "_law_number"] (spD K w 4 G_l_by_number) :=
  fn_ok T.F_l_by_number sc_l_by_number rfl fun cdv A outer s H E hr =>
    (dss_cons (ds_set (i := 4) sc_l_by_number.nd rfl (Or.inl rfl) (de_callTy call_strV strD_ne (by rfl) T.z_str (by decide +kernel) (da_consS (de_varS 3) da_nil)))
    (dss_cons (ds_set (i := 5) sc_l_by_number.nd rfl (Or.inl rfl) (de_call (ok_l_any T) (hr.mono (by decide)) (by rfl) T.m_l_any T.F_l_any.kp T.b_l_any .nil (fun _ => .nil) (takes_of rfl rfl rfl rfl) (da_consV (de_var 1) (da_consV (de_var 3) da_nil))))
    (dss_cons (ds_set (i := 6) sc_l_by_number.nd rfl (Or.inl rfl) (DE.toV (de_lst (da_consV (de_tup (da_consV (de_op op_addV addD_ne (DE.toS (de_op op_addV addD_ne (DE.toS de_str) (de_varS 4))) (de_varS 1)) (da_consV (de_op op_addV addD_ne (de_varS 4) (de_varS 1)) da_nil))) (da_consV (de_tup (da_consV (de_op op_addV addD_ne (DE.toS (de_op op_addV addD_ne (DE.toS de_str) (de_varS 4))) (de_varS 1)) (da_consV (de_op op_addV addD_ne (de_varS 4) (de_varS 1)) da_nil))) (da_consV (de_tup (da_consV (de_op op_addV addD_ne (DE.toS (de_op op_addV addD_ne (DE.toS de_str) (de_varS 4))) (de_varS 1)) (da_consV (de_op op_addV addD_ne (de_varS 4) (de_varS 1)) da_nil))) (da_consV (de_tup (da_consV (de_var 4) (da_consV (de_op op_addV addD_ne (de_varS 4) (de_varS 1)) da_nil))) da_nil)))))))
    (dss_cons (ds_set (i := 6) sc_l_by_number.nd rfl (Or.inl rfl) (de_op op_addV addD_ne (de_varS 6) (DE.oS (de_lst (da_consV (de_tup (da_consV (de_op op_addV addD_ne (DE.toS (de_op op_addV addD_ne (de_varS 4) (DE.toS de_str))) (de_varS 1)) (da_consV (de_op op_addV addD_ne (de_varS 4) (de_varS 1)) da_nil))) (da_consV (de_tup (da_consV (de_op op_addV addD_ne (de_varS 4) (DE.toS de_str)) (da_consV (de_op op_addV addD_ne (de_varS 4) (de_varS 1)) da_nil))) (da_consV (de_tup (da_consV (de_op op_addV addD_ne (DE.toS (de_op op_addV addD_ne (de_varS 4) (DE.toS de_str))) (de_varS 1)) (da_consV (de_op op_addV addD_ne (de_varS 4) (de_varS 1)) da_nil))) (da_consV (de_tup (da_consV (de_op op_addV addD_ne (de_varS 1) (de_varS 4)) (da_consV (de_op op_addV addD_ne (de_varS 4) (de_varS 1)) da_nil))) da_nil))))))))
    (dss_cons (ds_set (i := 6) sc_l_by_number.nd rfl (Or.inl rfl) (de_op op_addV addD_ne (de_varS 6) (DE.oS (de_lst (da_consV (de_tup (da_consV (de_op op_addV addD_ne (DE.toS (de_op op_addV addD_ne (de_varS 4) (DE.toS de_str))) (de_varS 1)) (da_consV (de_op op_addV addD_ne (de_varS 4) (de_varS 1)) da_nil))) (da_consV (de_tup (da_consV (de_op op_addV addD_ne (DE.toS (de_op op_addV addD_ne (de_varS 4) (DE.toS de_str))) (de_varS 1)) (da_consV (de_op op_addV addD_ne (DE.toS (de_op op_addV addD_ne (DE.toS (de_op op_addV addD_ne (de_varS 4) (DE.toS de_str))) (de_varS 1))) (DE.toS de_str)) da_nil))) (da_consV (de_tup (da_consV (de_op op_addV addD_ne (DE.toS (de_op op_addV addD_ne (de_varS 4) (de_varS 1))) (DE.toS de_str)) (da_consV (de_op op_addV addD_ne (de_varS 4) (de_varS 1)) da_nil))) da_nil)))))))
    (dss_cons (ds_set (i := 6) sc_l_by_number.nd rfl (Or.inl rfl) (de_op op_addV addD_ne (de_varS 6) (DE.oS (de_lst (da_consV (de_tup (da_consV (de_op op_addV addD_ne (DE.toS (de_op op_addV addD_ne (DE.toS de_str) (de_varS 4))) (DE.toS (de_op op_mulSV mulSD_ne (de_varS 1) (DE.toS de_int)))) (da_consV (de_op op_addV addD_ne (DE.toS (de_op op_addV addD_ne (DE.toS (de_op op_addV addD_ne (DE.toS de_str) (de_varS 4))) (de_varS 1))) (DE.toS de_str)) da_nil))) (da_consV (de_tup (da_consV (de_op op_addV addD_ne (DE.toS (de_op op_addV addD_ne (de_varS 4) (de_varS 1))) (DE.toS de_str)) (da_consV (de_op op_addV addD_ne (de_varS 4) (de_varS 1)) da_nil))) (da_consV (de_tup (da_consV (de_op op_addV addD_ne (DE.toS (de_op op_addV addD_ne (de_varS 4) (de_varS 1))) (DE.toS de_str)) (da_consV (de_op op_addV addD_ne (de_varS 4) (de_varS 1)) da_nil))) da_nil)))))))
    (dss_cons (ds_asg (dg_tup rfl (dgs_cons (dg_name (i := 7) sc_l_by_number.nd rfl (Or.inl rfl)) (dgs_cons (dg_name (i := 8) sc_l_by_number.nd rfl (Or.inl rfl)) dgs_nil))) (de_ix (de_varS 6) (DE.toS (de_op op_modV int2_ne (de_varS 0) (DE.toS (de_callB call_lenV lenD_ne (by rfl) T.z_len (by decide +kernel) (da_consS (de_varS 6) da_nil)))))))
    (dss_one (ds_retO (de_lst (da_consV (de_var 7) (da_consV (de_var 8) (da_consV (de_var 5) da_nil)))))))))))))
set_option maxRecDepth 100000 in
theorem ok_l_by_word (T : Top K mg) : FnOk P w K mg base (L2.CX P w) 2 T.f_l_by_word T.d_l_by_word ["_law_way", "_law_x", "_law_s"] (spD K w 3 G_l_by_word) :=
  fn_ok T.F_l_by_word sc_l_by_word rfl fun cdv A outer s H E hr =>
    (dss_cons (ds_set (i := 3) sc_l_by_word.nd rfl (Or.inl rfl) (DE.toV (de_lst (da_consV (de_tup (da_consV (de_op op_addV addD_ne (DE.toS de_str) (de_varS 1)) (da_consV (de_var 1) (da_consV (de_call (ok_l_any T) (hr.mono (by decide)) (by rfl) T.m_l_any T.F_l_any.kp T.b_l_any .nil (fun _ => .nil) (takes_of rfl rfl rfl rfl) (da_consV (de_var 1) (da_consV de_int da_nil))) da_nil)))) (da_consV (de_tup (da_consV de_str (da_consV de_str (da_consV (de_call (ok_l_any T) (hr.mono (by decide)) (by rfl) T.m_l_any T.F_l_any.kp T.b_l_any .nil (fun _ => .nil) (takes_of rfl rfl rfl rfl) (da_consV de_str (da_consV de_int da_nil))) da_nil)))) (da_consV (de_tup (da_consV de_str (da_consV de_str (da_consV (de_tup da_nil) da_nil)))) da_nil))))))
    (dss_cons (ds_set (i := 3) sc_l_by_word.nd rfl (Or.inl rfl) (de_op op_addV addD_ne (de_varS 3) (DE.oS (de_lst (da_consV (de_tup (da_consV de_str (da_consV de_str (da_consV (de_call (ok_l_of T) (hr.mono (by decide)) (by rfl) T.m_l_of T.F_l_of.kp T.b_l_of .nil (fun _ => .nil) (takes_of rfl rfl rfl rfl) (da_consV de_str (da_consV (de_tup da_nil) da_nil))) da_nil)))) (da_consV (de_tup (da_consV (de_op op_addV addD_ne (de_varS 1) (de_varS 2)) (da_consV (de_var 1) (da_consV (de_call (ok_l_any T) (hr.mono (by decide)) (by rfl) T.m_l_any T.F_l_any.kp T.b_l_any .nil (fun _ => .nil) (takes_of rfl rfl rfl rfl) (da_consV (de_var 1) (da_consV de_int da_nil))) da_nil)))) (da_consV (de_tup (da_consV de_str (da_consV de_str (da_consV (de_tup da_nil) da_nil)))) da_nil)))))))
    (dss_cons (ds_set (i := 3) sc_l_by_word.nd rfl (Or.inl rfl) (de_op op_addV addD_ne (de_varS 3) (DE.oS (de_lst (da_consV (de_tup (da_consV (de_op op_addV addD_ne (de_varS 2) (de_varS 1)) (da_consV (de_var 2) (da_consV (de_call (ok_l_of T) (hr.mono (by decide)) (by rfl) T.m_l_of T.F_l_of.kp T.b_l_of .nil (fun _ => .nil) (takes_of rfl rfl rfl rfl) (da_consV (de_var 2) (da_consV (de_tup da_nil) da_nil))) da_nil)))) (da_consV (de_tup (da_consV (de_op op_addV addD_ne (DE.toS (de_op op_addV addD_ne (DE.toS (de_op op_addV addD_ne (de_varS 1) (DE.toS de_str))) (de_varS 1))) (DE.toS de_str)) (da_consV (de_var 1) (da_consV (de_call (ok_l_any T) (hr.mono (by decide)) (by rfl) T.m_l_any T.F_l_any.kp T.b_l_any .nil (fun _ => .nil) (takes_of rfl rfl rfl rfl) (da_consV (de_var 1) (da_consV de_int da_nil))) da_nil)))) (da_consV (de_tup (da_consV de_str (da_consV de_str (da_consV (de_call (ok_l_any T) (hr.mono (by decide)) (by rfl) T.m_l_any T.F_l_any.kp T.b_l_any .nil (fun _ => .nil) (takes_of rfl rfl rfl rfl) (da_consV de_str (da_consV de_int da_nil))) da_nil)))) da_nil)))))))
    (dss_cons (ds_set (i := 3) sc_l_by_word.nd rfl (Or.inl rfl) (de_op op_addV addD_ne (de_varS 3) (DE.oS (de_lst (da_consV (de_tup (da_consV (de_op op_addV addD_ne (DE.toS (de_op op_addV addD_ne (DE.toS de_str) (de_varS 1))) (DE.toS de_str)) (da_consV (de_op op_addV addD_ne (DE.toS (de_op op_addV addD_ne (DE.toS de_str) (de_varS 1))) (DE.toS de_str)) (da_consV (de_call (ok_l_any T) (hr.mono (by decide)) (by rfl) T.m_l_any T.F_l_any.kp T.b_l_any .nil (fun _ => .nil) (takes_of rfl rfl rfl rfl) (da_consV (de_var 1) (da_consV de_int da_nil))) da_nil)))) (da_consV (de_tup (da_consV (de_op op_addV addD_ne (DE.toS de_str) (de_varS 2)) (da_consV (de_var 2) (da_consV (de_call (ok_l_of T) (hr.mono (by decide)) (by rfl) T.m_l_of T.F_l_of.kp T.b_l_of .nil (fun _ => .nil) (takes_of rfl rfl rfl rfl) (da_consV (de_var 2) (da_consV (de_tup da_nil) da_nil))) da_nil)))) (da_consV (de_tup (da_consV de_str (da_consV de_str (da_consV (de_tup da_nil) da_nil)))) da_nil)))))))
    (dss_cons (ds_set (i := 3) sc_l_by_word.nd rfl (Or.inl rfl) (de_op op_addV addD_ne (de_varS 3) (DE.oS (de_lst (da_consV (de_tup (da_consV (de_op op_addV addD_ne (DE.toS (de_callTy call_strV strD_ne (by rfl) T.z_str (by decide +kernel) (da_consS (DE.toS (de_op op_powV int2_ne (DE.toS de_int) (DE.toS de_int))) da_nil))) (de_varS 1)) (da_consV (de_op op_addV addD_ne (DE.toS (de_callTy call_strV strD_ne (by rfl) T.z_str (by decide +kernel) (da_consS (DE.toS (de_op op_subV int2_ne (DE.toS (de_op op_powV int2_ne (DE.toS de_int) (DE.toS de_int))) (DE.toS de_int))) da_nil))) (de_varS 1)) (da_consV (de_call (ok_l_any T) (hr.mono (by decide)) (by rfl) T.m_l_any T.F_l_any.kp T.b_l_any .nil (fun _ => .nil) (takes_of rfl rfl rfl rfl) (da_consV (de_var 1) (da_consV (de_op op_subV int2_ne (DE.toS (de_op op_powV int2_ne (DE.toS de_int) (DE.toS de_int))) (DE.toS de_int)) da_nil))) da_nil)))) da_nil)))))
    (dss_cons (ds_set (i := 3) sc_l_by_word.nd rfl (Or.inl rfl) (de_op op_addV addD_ne (de_varS 3) (DE.oS (de_lst (da_consV (de_tup (da_consV (de_op op_addV addD_ne (DE.toS de_str) (de_varS 1)) (da_consV (de_op op_addV addD_ne (DE.toS de_str) (de_varS 1)) (da_consV (de_call (ok_l_any T) (hr.mono (by decide)) (by rfl) T.m_l_any T.F_l_any.kp T.b_l_any .nil (fun _ => .nil) (takes_of rfl rfl rfl rfl) (da_consV (de_var 1) (da_consV de_int da_nil))) da_nil)))) (da_consV (de_tup (da_consV (de_op op_addV addD_ne (de_varS 1) (DE.toS de_str)) (da_consV (de_var 1) (da_consV (de_call (ok_l_any T) (hr.mono (by decide)) (by rfl) T.m_l_any T.F_l_any.kp T.b_l_any .nil (fun _ => .nil) (takes_of rfl rfl rfl rfl) (da_consV (de_var 1) (da_consV de_int da_nil))) da_nil)))) da_nil))))))
    (dss_cons (ds_set (i := 3) sc_l_by_word.nd rfl (Or.inl rfl) (de_op op_addV addD_ne (de_varS 3) (DE.oS (de_lst (da_consV (de_tup (da_consV (de_op op_addV addD_ne (de_varS 1) (DE.toS de_str)) (da_consV (de_var 1) (da_consV (de_call (ok_l_any T) (hr.mono (by decide)) (by rfl) T.m_l_any T.F_l_any.kp T.b_l_any .nil (fun _ => .nil) (takes_of rfl rfl rfl rfl) (da_consV (de_var 1) (da_consV de_int da_nil))) da_nil)))) (da_consV (de_tup (da_consV (de_op op_addV addD_ne (DE.toS de_str) (de_varS 1)) (da_consV (de_var 1) (da_consV (de_call (ok_l_any T) (hr.mono (by decide)) (by rfl) T.m_l_any T.F_l_any.kp T.b_l_any .nil (fun _ => .nil) (takes_of rfl rfl rfl rfl) (da_consV (de_var 1) (da_consV de_int da_nil))) da_nil)))) (da_consV (de_tup (da_consV (de_op op_addV addD_ne (de_varS 1) (DE.toS de_str)) (da_consV (de_var 1) (da_consV (de_call (ok_l_any T) (hr.mono (by decide)) (by rfl) T.m_l_any T.F_l_any.kp T.b_l_any .nil (fun _ => .nil) (takes_of rfl rfl rfl rfl) (da_consV (de_var 1) (da_consV de_int da_nil))) da_nil)))) da_nil)))))))
    (dss_cons (ds_set (i := 3) sc_l_by_word.nd rfl (Or.inl rfl) (de_op op_addV addD_ne (de_varS 3) (DE.oS (de_lst (da_consV (de_tup (da_consV de_str (da_consV de_str (da_consV (de_tup da_nil) da_nil)))) (da_consV (de_tup (da_consV (de_op op_addV addD_ne (DE.toS de_str) (de_varS 1)) (da_consV (de_op op_addV addD_ne (DE.toS (de_op op_addV addD_ne (DE.toS de_str) (de_varS 1))) (DE.toS de_str)) (da_consV (de_call (ok_l_any T) (hr.mono (by decide)) (by rfl) T.m_l_any T.F_l_any.kp T.b_l_any .nil (fun _ => .nil) (takes_of rfl rfl rfl rfl) (da_consV (de_var 1) (da_consV de_int da_nil))) da_nil)))) (da_consV (de_tup (da_consV (de_op op_addV addD_ne (de_varS 1) (DE.toS de_str)) (da_consV (de_var 1) (da_consV (de_call (ok_l_any T) (hr.mono (by decide)) (by rfl) T.m_l_any T.F_l_any.kp T.b_l_any .nil (fun _ => .nil) (takes_of rfl rfl rfl rfl) (da_consV (de_var 1) (da_consV de_int da_nil))) da_nil)))) da_nil)))))))
    (dss_cons (ds_set (i := 3) sc_l_by_word.nd rfl (Or.inl rfl) (de_op op_addV addD_ne (de_varS 3) (DE.oS (de_lst (da_consV (de_tup (da_consV (de_op op_addV addD_ne (DE.toS (de_op op_addV addD_ne (DE.toS de_str) (de_varS 1))) (DE.toS de_str)) (da_consV (de_op op_addV addD_ne (DE.toS (de_op op_addV addD_ne (DE.toS de_str) (de_varS 1))) (DE.toS de_str)) (da_consV (de_call (ok_l_any T) (hr.mono (by decide)) (by rfl) T.m_l_any T.F_l_any.kp T.b_l_any .nil (fun _ => .nil) (takes_of rfl rfl rfl rfl) (da_consV (de_var 1) (da_consV de_int da_nil))) da_nil)))) da_nil)))))
    (dss_one (ds_retO (de_callTy call_listO listD_ne (by rfl) T.z_list (by decide +kernel) (da_consS (DE.toS (de_ix (de_varS 3) (DE.toS (de_op op_modV int2_ne (de_varS 0) (DE.toS (de_callB call_lenV lenD_ne (by rfl) T.z_len (by decide +kernel) (da_consS (de_varS 3) da_nil))))))) da_nil)))))))))))))
set_option maxRecDepth 100000 in
theorem ok_l_by_plus (T : Top K mg) : FnOk P w K mg base (L2.CX P w) 2 T.f_l_by_plus T.d_l_by_plus ["_law_way", "_law_x", "_law_s"] (spD K w 3 G_l_by_plus) :=
  fn_ok T.F_l_by_plus sc_l_by_plus rfl fun cdv A outer s H E hr =>
    (dss_cons (ds_set (i := 3) sc_l_by_plus.nd rfl (Or.inl rfl) (DE.toV (de_lst (da_consV (de_op op_addV addD_ne (DE.toS (de_op op_addV addD_ne (de_varS 1) (DE.toS de_str))) (de_varS 1)) (da_consV (de_op op_addV addD_ne (DE.toS (de_op op_addV addD_ne (de_varS 1) (DE.toS de_str))) (de_varS 1)) (da_consV (de_op op_addV addD_ne (DE.toS (de_op op_addV addD_ne (de_varS 1) (DE.toS de_str))) (de_varS 1)) (da_consV (de_op op_addV addD_ne (DE.toS (de_op op_addV addD_ne (de_varS 1) (DE.toS de_str))) (de_varS 1)) (da_consV (de_op op_addV addD_ne (DE.toS (de_op op_addV addD_ne (de_varS 1) (DE.toS de_str))) (de_varS 1)) (da_consV (de_op op_addV addD_ne (DE.toS (de_op op_addV addD_ne (de_varS 1) (DE.toS de_str))) (de_varS 1)) da_nil)))))))))
    (dss_cons (ds_set (i := 3) sc_l_by_plus.nd rfl (Or.inl rfl) (de_op op_addV addD_ne (de_varS 3) (DE.oS (de_lst (da_consV (de_op op_addV addD_ne (DE.toS (de_op op_addV addD_ne (de_varS 1) (DE.toS de_str))) (de_varS 1)) (da_consV (de_op op_addV addD_ne (DE.toS (de_op op_addV addD_ne (de_varS 1) (DE.toS de_str))) (de_varS 1)) (da_consV (de_op op_addV addD_ne (DE.toS (de_op op_addV addD_ne (DE.toS (de_op op_addV addD_ne (de_varS 1) (DE.toS de_str))) (de_varS 1))) (DE.toS de_str)) (da_consV (de_op op_addV addD_ne (DE.toS (de_op op_addV addD_ne (DE.toS (de_op op_addV addD_ne (DE.toS de_str) (de_varS 1))) (DE.toS de_str))) (de_varS 1)) da_nil))))))))
    (dss_cons (ds_set (i := 3) sc_l_by_plus.nd rfl (Or.inl rfl) (de_op op_addV addD_ne (de_varS 3) (DE.oS (de_lst (da_consV (de_op op_addV addD_ne (DE.toS (de_op op_addV addD_ne (DE.toS (de_op op_addV addD_ne (DE.toS (de_op op_addV addD_ne (DE.toS de_str) (de_varS 1))) (DE.toS de_str))) (de_varS 1))) (DE.toS de_str)) (da_consV (de_op op_addV addD_ne (DE.toS (de_op op_addV addD_ne (DE.toS (de_op op_addV addD_ne (de_varS 1) (DE.toS de_str))) (de_varS 1))) (DE.toS de_str)) da_nil))))))
    (dss_cons (ds_set (i := 3) sc_l_by_plus.nd rfl (Or.inl rfl) (de_op op_addV addD_ne (de_varS 3) (DE.oS (de_lst (da_consV (de_op op_addV addD_ne (DE.toS (de_op op_addV addD_ne (de_varS 1) (DE.toS de_str))) (de_varS 1)) (da_consV (de_op op_addV addD_ne (DE.toS (de_op op_addV addD_ne (de_varS 1) (DE.toS de_str))) (de_varS 1)) (da_consV (de_op op_addV addD_ne (DE.toS de_str) (de_varS 1)) (da_consV (de_op op_addV addD_ne (DE.toS (de_op op_addV addD_ne (de_varS 1) (DE.toS de_str))) (de_varS 1)) da_nil))))))))
    (dss_one (ds_retO (de_lst (da_consV (de_ix (de_varS 3) (DE.toS (de_op op_modV int2_ne (de_varS 0) (DE.toS (de_callB call_lenV lenD_ne (by rfl) T.z_len (by decide +kernel) (da_consS (de_varS 3) da_nil)))))) (da_consV (de_op op_addV addD_ne (DE.toS (de_op op_addV addD_ne (de_varS 1) (DE.toS de_str))) (de_varS 1)) (da_consV (de_call (ok_l_any T) (hr.mono (by decide)) (by rfl) T.m_l_any T.F_l_any.kp T.b_l_any .nil (fun _ => .nil) (takes_of rfl rfl rfl rfl) (da_consV (de_var 1) (da_consV de_int da_nil))) da_nil))))))))))
set_option maxRecDepth 100000 in
theorem ok_l_by_parts (T : Top K mg) : FnOk P w K mg base (L2.CX P w) 2 T.f_l_by_parts T.d_l_by_parts ["_law_way", "_law_x", "_law_s"] (spD K w 3 G_l_by_parts) :=
  fn_ok T.F_l_by_parts sc_l_by_parts rfl fun cdv A outer s H E hr =>
    (dss_cons (ds_set (i := 3) sc_l_by_parts.nd rfl (Or.inl rfl) (DE.toV (de_lst (da_consV (de_op op_addV addD_ne (DE.toS (de_op op_addV addD_ne (DE.toS (de_op op_addV addD_ne (de_varS 2) (DE.toS de_str))) (de_varS 1))) (DE.toS de_str)) (da_consV (de_call (ok_l_of T) (hr.mono (by decide)) (by rfl) T.m_l_of T.F_l_of.kp T.b_l_of .nil (fun _ => .nil) (takes_of rfl rfl rfl rfl) (da_consV (de_var 2) (da_consV (de_tup (da_consV (de_tup da_nil) (da_consV (de_call (ok_l_any T) (hr.mono (by decide)) (by rfl) T.m_l_any T.F_l_any.kp T.b_l_any .nil (fun _ => .nil) (takes_of rfl rfl rfl rfl) (da_consV (de_var 1) (da_consV de_int da_nil))) da_nil))) da_nil))) da_nil)))))
    (dss_cons (ds_set (i := 4) sc_l_by_parts.nd rfl (Or.inl rfl) (DE.toV (de_lst (da_consV (de_op op_addV addD_ne (DE.toS (de_op op_addV addD_ne (DE.toS (de_op op_addV addD_ne (de_varS 2) (DE.toS de_str))) (de_varS 1))) (DE.toS de_str)) (da_consV (de_op op_addV addD_ne (DE.toS (de_op op_addV addD_ne (DE.toS (de_op op_addV addD_ne (de_varS 2) (DE.toS de_str))) (de_varS 1))) (DE.toS de_str)) (da_consV (de_op op_addV addD_ne (DE.toS (de_op op_addV addD_ne (DE.toS (de_op op_addV addD_ne (de_varS 2) (DE.toS de_str))) (de_varS 1))) (DE.toS de_str)) (da_consV (de_op op_addV addD_ne (DE.toS (de_op op_addV addD_ne (DE.toS (de_op op_addV addD_ne (de_varS 2) (DE.toS de_str))) (de_varS 1))) (DE.toS de_str)) da_nil)))))))
    (dss_cons (ds_set (i := 4) sc_l_by_parts.nd rfl (Or.inl rfl) (de_op op_addV addD_ne (de_varS 4) (DE.oS (de_lst (da_consV (de_op op_addV addD_ne (DE.toS (de_op op_addV addD_ne (DE.toS (de_op op_addV addD_ne (de_varS 2) (DE.toS de_str))) (de_varS 1))) (DE.toS de_str)) (da_consV (de_op op_addV addD_ne (DE.toS (de_op op_addV addD_ne (DE.toS (de_op op_addV addD_ne (de_varS 2) (DE.toS de_str))) (de_varS 1))) (DE.toS de_str)) (da_consV (de_op op_addV addD_ne (de_varS 2) (DE.toS de_str)) (da_consV (de_op op_addV addD_ne (DE.toS (de_op op_addV addD_ne (DE.toS (de_op op_addV addD_ne (de_varS 2) (DE.toS de_str))) (de_varS 1))) (DE.toS de_str)) da_nil))))))))
    (dss_cons (ds_set (i := 4) sc_l_by_parts.nd rfl (Or.inl rfl) (de_op op_addV addD_ne (de_varS 4) (DE.oS (de_lst (da_consV (de_op op_addV addD_ne (DE.toS (de_op op_addV addD_ne (de_varS 2) (DE.toS de_str))) (de_varS 1)) (da_consV (de_op op_addV addD_ne (DE.toS (de_op op_addV addD_ne (DE.toS (de_op op_addV addD_ne (de_varS 2) (DE.toS de_str))) (de_varS 1))) (DE.toS de_str)) da_nil))))))
    (dss_cons (ds_set (i := 4) sc_l_by_parts.nd rfl (Or.inl rfl) (de_op op_addV addD_ne (de_varS 4) (DE.oS (de_lst (da_consV (de_op op_addV addD_ne (DE.toS (de_op op_addV addD_ne (DE.toS (de_op op_addV addD_ne (DE.toS (de_op op_addV addD_ne (DE.toS (de_op op_addV addD_ne (de_varS 2) (DE.toS de_str))) (de_varS 1))) (DE.toS de_str))) (de_varS 1))) (DE.toS de_str)) (da_consV (de_op op_addV addD_ne (DE.toS (de_op op_addV addD_ne (DE.toS (de_op op_addV addD_ne (de_varS 2) (DE.toS de_str))) (de_varS 1))) (DE.toS de_str)) (da_consV (de_op op_addV addD_ne (DE.toS (de_op op_addV addD_ne (DE.toS (de_op op_addV addD_ne (de_varS 2) (DE.toS de_str))) (de_varS 1))) (DE.toS de_str)) (da_consV (de_op op_addV addD_ne (DE.toS (de_op op_addV addD_ne (DE.toS (de_op op_addV addD_ne (de_varS 2) (DE.toS de_str))) (de_varS 1))) (DE.toS de_str)) da_nil))))))))
    (dss_cons (ds_set (i := 4) sc_l_by_parts.nd rfl (Or.inl rfl) (de_op op_addV addD_ne (de_varS 4) (DE.oS (de_lst (da_consV (de_op op_addV addD_ne (DE.toS (de_op op_addV addD_ne (DE.toS (de_op op_addV addD_ne (de_varS 2) (DE.toS de_str))) (de_varS 1))) (DE.toS de_str)) (da_consV (de_op op_addV addD_ne (DE.toS (de_op op_addV addD_ne (DE.toS (de_op op_addV addD_ne (de_varS 2) (DE.toS de_str))) (de_varS 1))) (DE.toS de_str)) (da_consV (de_op op_addV addD_ne (de_varS 2) (DE.toS de_str)) (da_consV (de_op op_addV addD_ne (DE.toS (de_op op_addV addD_ne (DE.toS (de_op op_addV addD_ne (DE.toS de_str) (de_varS 1))) (DE.toS de_str))) (de_varS 2)) da_nil))))))))
    (dss_cons (ds_set (i := 4) sc_l_by_parts.nd rfl (Or.inl rfl) (de_op op_addV addD_ne (de_varS 4) (DE.oS (de_lst (da_consV (de_op op_addV addD_ne (DE.toS (de_op op_addV addD_ne (DE.toS (de_op op_addV addD_ne (de_varS 2) (DE.toS de_str))) (de_varS 1))) (DE.toS de_str)) da_nil)))))
    (dss_one (ds_retO (de_op op_addO addL_ne (DE.oS (de_lst (da_consV (de_ix (de_varS 4) (DE.toS (de_op op_modV int2_ne (de_varS 0) (DE.toS (de_callB call_lenV lenD_ne (by rfl) T.z_len (by decide +kernel) (da_consS (de_varS 4) da_nil)))))) da_nil))) (de_varS 3)))))))))))
set_option maxRecDepth 100000 in
theorem ok_l_by_size (T : Top K mg) : FnOk P w K mg base (L2.CX P w) 2 T.f_l_by_size T.d_l_by_size ["_law_way", "_law_x", "_law_s"] (spD K w 3 G_l_by_size) :=
  fn_ok T.F_l_by_size sc_l_by_size rfl fun cdv A outer s H E hr =>
    (dss_cons (ds_if (dt_cmp (op_eqV hr.units) eqD_ne (DE.toS (de_op op_modV int2_ne (de_varS 0) (DE.toS de_int))) (DE.toS de_int) (nomark _)) (dss_one (ds_retO (de_lst (da_consV (de_op op_addV addD_ne (DE.toS (de_op op_addV addD_ne (DE.toS (de_op op_mulSV mulSD_ne (DE.toS de_str) (DE.toS de_int))) (de_varS 1))) (DE.toS (de_op op_mulSV mulSD_ne (DE.toS de_str) (DE.toS de_int)))) (da_consV (de_op op_addV addD_ne (DE.toS (de_op op_addV addD_ne (DE.toS (de_op op_mulSV mulSD_ne (DE.toS de_str) (DE.toS de_int))) (de_varS 1))) (DE.toS (de_op op_mulSV mulSD_ne (DE.toS de_str) (DE.toS de_int)))) (da_consV (de_call (ok_l_any T) (hr.mono (by decide)) (by rfl) T.m_l_any T.F_l_any.kp T.b_l_any .nil (fun _ => .nil) (takes_of rfl rfl rfl rfl) (da_consV (de_var 1) (da_consV de_int da_nil))) da_nil)))))) dss_nil)
    (dss_cons (ds_if (dt_cmp (op_eqV hr.units) eqD_ne (DE.toS (de_op op_modV int2_ne (de_varS 0) (DE.toS de_int))) (DE.toS de_int) (nomark _)) (dss_cons (ds_set (i := 3) sc_l_by_size.nd rfl (Or.inl rfl) (de_tup da_nil))
    (dss_cons (ds_for (passes_of rfl) rfl (di_range1 (by rfl) T.z_range (da_consV de_int da_nil)) (dg_name (i := 4) sc_l_by_size.nd rfl (Or.inl rfl))
    (dss_one (ds_set (i := 3) sc_l_by_size.nd rfl (Or.inl rfl) (de_call (ok_l_of T) (hr.mono (by decide)) (by rfl) T.m_l_of T.F_l_of.kp T.b_l_of .nil (fun _ => .nil) (takes_of rfl rfl rfl rfl) (da_consV (de_var 2) (da_consV (de_tup (da_consV (de_var 3) da_nil)) da_nil))))))
    (dss_one (ds_retO (de_lst (da_consV (de_op op_addV addD_ne (DE.toS (de_op op_addV addD_ne (DE.toS (de_op op_mulSV mulSD_ne (DE.toS (de_op op_addV addD_ne (de_varS 2) (DE.toS de_str))) (DE.toS de_int))) (DE.toS de_str))) (DE.toS (de_op op_mulSV mulSD_ne (DE.toS de_str) (DE.toS de_int)))) (da_consV (de_op op_addV addD_ne (DE.toS (de_op op_addV addD_ne (DE.toS (de_op op_mulSV mulSD_ne (DE.toS (de_op op_addV addD_ne (de_varS 2) (DE.toS de_str))) (DE.toS de_int))) (DE.toS de_str))) (DE.toS (de_op op_mulSV mulSD_ne (DE.toS de_str) (DE.toS de_int)))) (da_consV (de_var 3) da_nil)))))))) dss_nil)
    (dss_one (ds_retO (de_lst (da_consV (de_op op_addV addD_ne (DE.toS (de_op op_mulSV mulSD_ne (DE.toS de_str) (DE.toS de_int))) (DE.toS de_str)) (da_consV (de_op op_addV addD_ne (DE.toS (de_op op_mulSV mulSD_ne (DE.toS de_str) (DE.toS de_int))) (DE.toS de_str)) (da_consV (de_tup (da_consV (de_tup (da_consV (de_tup (da_consV de_str (da_consV de_str da_nil))) (da_consV de_int da_nil))) (da_consV (de_tup (da_consV (de_tup (da_consV de_str (da_consV de_str da_nil))) (da_consV de_int da_nil))) da_nil))) da_nil))))))))
set_option maxRecDepth 100000 in
theorem ok_l_within (T : Top K mg) : FnOk P w K mg base (L2.CX P w) 2 T.f_l_within T.d_l_within ["_law_way", "_law_x", "_law_s", "_law_told"] (spD K w 4 G_l_within) :=
  fn_ok T.F_l_within sc_l_within rfl fun cdv A outer s H E hr =>
    (dss_cons (ds_asg (dg_lst rfl (dgs_cons (dg_name (i := 4) sc_l_within.nd rfl (Or.inl rfl)) (dgs_cons (dg_name (i := 5) sc_l_within.nd rfl (Or.inl rfl)) (dgs_cons (dg_name (i := 6) sc_l_within.nd rfl (Or.inl rfl)) dgs_nil)))) (de_var 3))
    (dss_cons (ds_if (dt_cmp (op_eqV hr.units) eqD_ne (de_varS 0) (DE.toS de_int) (nomark _)) (dss_one (ds_retO (de_lst (da_consV (de_op op_addV addD_ne (DE.toS (de_op op_addV addD_ne (DE.toS de_str) (de_varS 4))) (DE.toS de_str)) (da_consV (de_op op_addV addD_ne (DE.toS (de_op op_addV addD_ne (DE.toS de_str) (de_varS 5))) (DE.toS de_str)) (da_consV (de_var 6) da_nil)))))) dss_nil)
    (dss_cons (ds_if (dt_cmp (op_eqV hr.units) eqD_ne (de_varS 0) (DE.toS de_int) (nomark _)) (dss_one (ds_retO (de_lst (da_consV (de_op op_addV addD_ne (DE.toS (de_op op_addV addD_ne (DE.toS (de_op op_addV addD_ne (de_varS 2) (DE.toS de_str))) (de_varS 4))) (DE.toS de_str)) (da_consV (de_op op_addV addD_ne (DE.toS (de_op op_addV addD_ne (DE.toS (de_op op_addV addD_ne (de_varS 2) (DE.toS de_str))) (de_varS 5))) (DE.toS de_str)) (da_consV (de_call (ok_l_of T) (hr.mono (by decide)) (by rfl) T.m_l_of T.F_l_of.kp T.b_l_of .nil (fun _ => .nil) (takes_of rfl rfl rfl rfl) (da_consV (de_var 2) (da_consV (de_tup (da_consV (de_var 6) da_nil)) da_nil))) da_nil)))))) dss_nil)
    (dss_cons (ds_if (dt_cmp (op_eqV hr.units) eqD_ne (de_varS 0) (DE.toS de_int) (nomark _)) (dss_one (ds_retO (de_lst (da_consV (de_op op_addV addD_ne (DE.toS (de_op op_addV addD_ne (DE.toS (de_op op_addV addD_ne (de_varS 2) (DE.toS de_str))) (de_varS 4))) (DE.toS de_str)) (da_consV (de_op op_addV addD_ne (DE.toS (de_op op_addV addD_ne (DE.toS (de_op op_addV addD_ne (de_varS 2) (DE.toS de_str))) (de_varS 5))) (DE.toS de_str)) (da_consV (de_call (ok_l_of T) (hr.mono (by decide)) (by rfl) T.m_l_of T.F_l_of.kp T.b_l_of .nil (fun _ => .nil) (takes_of rfl rfl rfl rfl) (da_consV (de_var 2) (da_consV (de_tup (da_consV (de_tup da_nil) (da_consV (de_var 6) da_nil))) da_nil))) da_nil)))))) dss_nil)
    (dss_cons (ds_if (dt_cmp (op_eqV hr.units) eqD_ne (de_varS 0) (DE.toS de_int) (nomark _)) (dss_one (ds_retO (de_lst (da_consV (de_op op_addV addD_ne (DE.toS (de_op op_addV addD_ne (DE.toS (de_op op_addV addD_ne (DE.toS (de_op op_addV addD_ne (DE.toS (de_op op_addV addD_ne (de_varS 2) (DE.toS de_str))) (de_varS 4))) (DE.toS de_str))) (de_varS 1))) (DE.toS de_str)) (da_consV (de_op op_addV addD_ne (DE.toS (de_op op_addV addD_ne (DE.toS (de_op op_addV addD_ne (DE.toS (de_op op_addV addD_ne (DE.toS (de_op op_addV addD_ne (de_varS 2) (DE.toS de_str))) (de_varS 5))) (DE.toS de_str))) (de_varS 1))) (DE.toS de_str)) (da_consV (de_call (ok_l_of T) (hr.mono (by decide)) (by rfl) T.m_l_of T.F_l_of.kp T.b_l_of .nil (fun _ => .nil) (takes_of rfl rfl rfl rfl) (da_consV (de_var 2) (da_consV (de_tup (da_consV (de_var 6) (da_consV (de_call (ok_l_any T) (hr.mono (by decide)) (by rfl) T.m_l_any T.F_l_any.kp T.b_l_any .nil (fun _ => .nil) (takes_of rfl rfl rfl rfl) (da_consV (de_var 1) (da_consV de_int da_nil))) da_nil))) da_nil))) da_nil)))))) dss_nil)
    (dss_one (ds_retVar 3)))))))
set_option maxRecDepth 100000 in
theorem ok_l_pair (T : Top K mg) : FnOk P w K mg base (L2.CX P w) 3 T.f_l_pair T.d_l_pair ["_law_script", "_law_k", "_law_x", "_law_s"] (spD K w 4 G_l_pair) :=
  fn_ok T.F_l_pair sc_l_pair rfl fun cdv A outer s H E hr =>
    (dss_cons (ds_set (i := 4) sc_l_pair.nd rfl (Or.inl rfl) (de_call (ok_l_pick T) (hr.mono (by decide)) (by rfl) T.m_l_pick T.F_l_pick.kp T.b_l_pick .nil (fun _ => .nil) (takes_of rfl rfl rfl rfl) (da_consV (de_var 0) (da_consV (de_var 1) (da_consV de_int da_nil)))))
    (dss_cons (ds_set (i := 5) sc_l_pair.nd rfl (Or.inl rfl) (de_call (ok_l_pick T) (hr.mono (by decide)) (by rfl) T.m_l_pick T.F_l_pick.kp T.b_l_pick .nil (fun _ => .nil) (takes_of rfl rfl rfl rfl) (da_consV (de_var 0) (da_consV (de_op op_addV addD_ne (de_varS 1) (DE.toS de_int)) (da_consV de_int da_nil)))))
    (dss_cons (ds_if (dt_cmp (op_eqV hr.units) eqD_ne (de_varS 5) (DE.toS de_int) (nomark _)) (dss_one (ds_ret (de_call (ok_l_by_size T) (hr.mono (by decide)) (by rfl) T.m_l_by_size T.F_l_by_size.kp T.b_l_by_size .nil (fun _ => .nil) (takes_of rfl rfl rfl rfl) (da_consV (de_var 4) (da_consV (de_var 2) (da_consV (de_var 3) da_nil)))))) dss_nil)
    (dss_cons (ds_set (i := 6) sc_l_pair.nd rfl (Or.inl rfl) (de_call (ok_l_by_word T) (hr.mono (by decide)) (by rfl) T.m_l_by_word T.F_l_by_word.kp T.b_l_by_word .nil (fun _ => .nil) (takes_of rfl rfl rfl rfl) (da_consV (de_var 4) (da_consV (de_var 2) (da_consV (de_var 3) da_nil)))))
    (dss_cons (ds_if (dt_cmp (op_eqV hr.units) eqD_ne (de_varS 5) (DE.toS de_int) (nomark _)) (dss_one (ds_set (i := 6) sc_l_pair.nd rfl (Or.inl rfl) (de_call (ok_l_by_number T) (hr.mono (by decide)) (by rfl) T.m_l_by_number T.F_l_by_number.kp T.b_l_by_number .nil (fun _ => .nil) (takes_of rfl rfl rfl rfl) (da_consV (de_var 4) (da_consV (de_var 2) (da_consV (de_var 3) (da_consV (de_op op_addV addD_ne (DE.toS de_int) (DE.toS (de_op op_modV int2_ne (DE.toS (de_call (ok_l_cell T) (hr.mono (by decide)) (by rfl) T.m_l_cell T.F_l_cell.kp T.b_l_cell .nil (fun _ => .nil) (takes_of rfl rfl rfl rfl) (da_consV (de_var 0) (da_consV (de_var 1) da_nil)))) (DE.toS (de_op op_subV int2_ne (DE.toS (de_op op_powV int2_ne (DE.toS de_int) (DE.toS de_int))) (DE.toS de_int)))))) da_nil))))))) dss_nil)
    (dss_cons (ds_if (dt_cmp (op_eqV hr.units) eqD_ne (de_varS 5) (DE.toS de_int) (nomark _)) (dss_one (ds_set (i := 6) sc_l_pair.nd rfl (Or.inl rfl) (de_call (ok_l_by_plus T) (hr.mono (by decide)) (by rfl) T.m_l_by_plus T.F_l_by_plus.kp T.b_l_by_plus .nil (fun _ => .nil) (takes_of rfl rfl rfl rfl) (da_consV (de_var 4) (da_consV (de_var 2) (da_consV (de_var 3) da_nil)))))) dss_nil)
    (dss_cons (ds_if (dt_cmp (op_eqV hr.units) eqD_ne (de_varS 5) (DE.toS de_int) (nomark _)) (dss_one (ds_set (i := 6) sc_l_pair.nd rfl (Or.inl rfl) (de_call (ok_l_by_parts T) (hr.mono (by decide)) (by rfl) T.m_l_by_parts T.F_l_by_parts.kp T.b_l_by_parts .nil (fun _ => .nil) (takes_of rfl rfl rfl rfl) (da_consV (de_var 4) (da_consV (de_var 2) (da_consV (de_var 3) da_nil)))))) dss_nil)
    (dss_one (ds_ret (de_call (ok_l_within T) (hr.mono (by decide)) (by rfl) T.m_l_within T.F_l_within.kp T.b_l_within .nil (fun _ => .nil) (takes_of rfl rfl rfl rfl) (da_consV (de_call (ok_l_pick T) (hr.mono (by decide)) (by rfl) T.m_l_pick T.F_l_pick.kp T.b_l_pick .nil (fun _ => .nil) (takes_of rfl rfl rfl rfl) (da_consV (de_var 0) (da_consV (de_op op_addV addD_ne (de_varS 1) (DE.toS de_int)) (da_consV de_int da_nil)))) (da_consV (de_var 2) (da_consV (de_var 3) (da_consV (de_var 6) da_nil))))))))))))))
set_option maxRecDepth 100000 in
theorem ok_law (T : Top K mg) : FnOk P w K mg base (L2.CX P w) 101 T.f_law T.d_law ["_law_script"] (spD K w 1 (G_law T.E)) :=
  fn_ok T.F_law sc_law rfl fun cdv A outer s H E hr =>
    (dss_cons (ds_set (i := 1) sc_law.nd rfl (Or.inl rfl) (de_ix (DE.toS (de_call (ok_l_unknowns T) (hr.mono (by decide)) (by rfl) T.m_l_unknowns T.F_l_unknowns.kp T.b_l_unknowns .nil (fun _ => .nil) (takes_of rfl rfl rfl rfl) (da_consV (de_var 0) (da_consV de_int da_nil)))) (DE.toS de_int)))
    (dss_cons (ds_set (i := 2) sc_law.nd rfl (Or.inl rfl) (de_ix (DE.toS (de_call (ok_l_signs T) (hr.mono (by decide)) (by rfl) T.m_l_signs T.F_l_signs.kp T.b_l_signs .nil (fun _ => .nil) (takes_of rfl rfl rfl rfl) (da_consV (de_var 0) (da_consV de_int da_nil)))) (DE.toS de_int)))
    (dss_cons (ds_for (passes_of rfl) rfl (di_range3 (by rfl) T.z_range (da_consV de_int (da_consV (de_callB (call_maxV rfl) maxD_ne (by rfl) T.z_max (by decide +kernel) (da_consS (DE.toS de_int) (da_consS (DE.toS (de_callB (call_minV rfl) minD_ne (by rfl) T.z_min (by decide +kernel) (da_consS (DE.toS de_int) (da_consS (DE.toS (de_callB call_lenV lenD_ne (by rfl) T.z_len (by decide +kernel) (da_consS (de_varS 0) da_nil))) da_nil)))) da_nil))) (da_consV de_int da_nil)))) (dg_name (i := 3) sc_law.nd rfl (Or.inl rfl))
    (dss_cons (ds_asg (dg_lst rfl (dgs_cons (dg_name (i := 4) sc_law.nd rfl (Or.inl rfl)) (dgs_cons (dg_name (i := 5) sc_law.nd rfl (Or.inl rfl)) (dgs_cons (dg_name (i := 6) sc_law.nd rfl (Or.inl rfl)) dgs_nil)))) (de_call (ok_l_pair T) (hr.mono (by decide)) (by rfl) T.m_l_pair T.F_l_pair.kp T.b_l_pair .nil (fun _ => .nil) (takes_of rfl rfl rfl rfl) (da_consV (de_var 0) (da_consV (de_var 3) (da_consV (de_var 1) (da_consV (de_var 2) da_nil))))))
    (dss_one (ds_if (DW.dt (dw_or (dt_not (dt_val (de_call (ok_l_refused T) (hr.mono (by decide)) (by rfl) T.m_l_refused T.F_l_refused.kp T.b_l_refused .nil (fun _ => .nil) (takes_of rfl rfl rfl rfl) (da_consV (de_var 4) da_nil)))) (dw_or (dt_not (dt_val (de_call (ok_l_same T 100) (hr.mono (by decide)) (by rfl) T.m_l_same T.F_l_same.kp T.b_l_same .nil (fun _ => .nil) (takes_of rfl rfl rfl rfl) (da_consV (de_call (ok_read T) (hr.mono (by decide)) (by rfl) T.m_read T.F_read.kp T.b_read .nil (fun _ => .nil) (takes_of rfl rfl rfl rfl) (da_consV (de_var 5) da_nil)) (da_consV (de_var 6) da_nil))))) (dw_or1 (dt_not (dt_val (de_call (ok_l_refused T) (hr.mono (by decide)) (by rfl) T.m_l_refused T.F_l_refused.kp T.b_l_refused .nil (fun _ => .nil) (takes_of rfl rfl rfl rfl) (da_consV (de_var 4) da_nil)))))))) (dss_one (ds_ret de_bl)) dss_nil))))
    (dss_cons (ds_set (i := 7) sc_law.nd rfl (Or.inl rfl) (de_op op_modV int2_ne (DE.toS (de_call (ok_l_cell T) (hr.mono (by decide)) (by rfl) T.m_l_cell T.F_l_cell.kp T.b_l_cell .nil (fun _ => .nil) (takes_of rfl rfl rfl rfl) (da_consV (de_var 0) (da_consV de_int da_nil)))) (DE.toS de_int)))
    (dss_cons (ds_for (passes_of rfl) rfl (di_seq (DE.toV (de_lst (da_consV de_non (da_consV (de_var 7) (da_consV (de_tup (da_consV de_str (da_consV de_str da_nil))) (da_consV (DE.toV (de_lst (da_consV de_str da_nil))) (da_consV (DE.toV de_dnew) (da_consV (de_tup (da_consV (de_tup (da_consV (de_tup (da_consV de_str (da_consV (de_var 1) da_nil))) (da_consV de_int da_nil))) da_nil)) (da_consV de_bl da_nil)))))))))) (dg_name (i := 8) sc_law.nd rfl (Or.inl rfl))
    (dss_one (ds_if (dt_not (dt_val (de_call (ok_l_refused T) (hr.mono (by decide)) (by rfl) T.m_l_refused T.F_l_refused.kp T.b_l_refused .nil (fun _ => .nil) (takes_of rfl rfl rfl rfl) (da_consV (de_var 8) da_nil)))) (dss_one (ds_ret de_bl)) dss_nil)))
    (dss_one (ds_ret de_bl)))))))
end
end K14

namespace K14
open PySem PySem.Spec PyProof.Rows L2 DL
local macro_rules | `(tactic| walk_at "ev") => `(tactic| simp (disch := first | omega | (simp only [List.length_cons, List.length_nil, List.length_map, List.length_append, List.length_take, List.length_drop] <;> omega) | fail) only [ startD, List.map_cons, List.map_nil, List.cons_append, List.nil_append, List.length_cons, List.length_nil, List.length_map, List.replicate, List.append_nil,
  ev_seq, ev_nx, ev_rt, ev_xc, ev_bk, ev_ct, ev_ss, ev_if, ev_ifT, ev_ifF, ev_stepN, lp_nx, lp_ct, lp_bk, lp_rt, lp_xc, wp_some,
  dSet, dSetO, dRet, dRetO, dRetVar, dNx, eS_ok, eS_mok, mbind_ok, mbind_mok, dTst, d2, d1, dVar, dVarS, dC, dCall, dCons, dNil, dFn, ev_ret, ev_exc, dAnd, dOr, dNot, dAndV, dOrV, dNotV, dTup, dLst, dApp, dSetIx, dAug, dYes, dIt, dItA,  wipeD, gN, gT, gCons', gNil', ev_appOk, ixN_ok, Option.bind_some,
  if_true, if_false, Bool.true_and, Bool.false_and, Bool.and_true, Bool.and_false, Bool.true_or, Bool.false_or, Bool.or_true, Bool.or_false, Bool.not_true, Bool.not_false, decide_true, decide_false, reduceIte, Bool.false_eq_true,
  Int.reduceToNat, Int.reduceAdd, Int.reduceSub, Int.reduceMul, Int.reduceMod, Int.reduceLT, Int.reduceLE, Int.reduceEq, Nat.reduceAdd, Nat.reduceSub, Nat.reduceEqDiff, Nat.reduceLT, Int.reducePow, gt_iff_lt, ge_iff_le, Int.reduceGT, Int.toNat_zero, Int.toNat_one, List.set_cons_zero, List.set_cons_succ, List.getD_cons_zero, List.getD_cons_succ, decide_eq_true_eq, decide_eq_false_iff_not,
  List.getElem?_cons_zero, List.getElem?_cons_succ, addD_int, iaddD_int, subD_int, ltD_int, leD_int, gtD_int, geD_int, eqD_int, neD_int, eqD_bool, asB_bool, lenD_list, lenD_tuple, tupleD_list, tupleD_tuple, listD_list, listD_tuple, resOf, mulD_r, mulD_l, modD_int, divD_int, powD_int, addD_list, addL_list, addD_tuple, cutD_toT, cutD_fromT, cutD_toL, cutD_fromL, cutO_toL, cutO_fromL, sortD_list, sortD_tuple, zipD_list, zipD_tuple, asLT_list, asLT_tuple, dFnO, dResO, dFnS, List.take_succ_cons, List.take_zero, List.drop_succ_cons, List.drop_zero, addD_T, iaddD_T, lenD_T, cutD_to, cutD_from, eqD_T, neD_T, isiD_str, dSl, dSome, dNo, asI_int, letter_small, letter_great, ev_andM, ev_orM, maxD_int, minD_int, absD_int, isiD_bool, getD'_ints, getD'_intsT, getD'_atC, getD'_atCT, rngD_one, rngD_two, isNotD_none, isD_none])
local macro_rules | `(tactic| walk_at "un") => `(tactic| simp (disch := first | omega | (simp only [List.length_cons, List.length_nil, List.length_map, List.length_append, List.length_take, List.length_drop] <;> omega) | fail) only [ dFor, ev_forN, ev_forS, ev_lnx, ev_lct, ev_lbk, ev_lrt, ev_lxc, rngL_step, rngL_nil, range_0, range_1, range_2, range_3, range_4, range_5, startD, List.map_cons, List.map_nil, List.cons_append, List.nil_append, List.length_cons, List.length_nil, List.length_map, List.replicate, List.append_nil,
  ev_seq, ev_nx, ev_rt, ev_xc, ev_bk, ev_ct, ev_ss, ev_if, ev_ifT, ev_ifF, ev_stepN, lp_nx, lp_ct, lp_bk, lp_rt, lp_xc, wp_some,
  dSet, dSetO, dRet, dRetO, dRetVar, dNx, eS_ok, eS_mok, mbind_ok, mbind_mok, dTst, d2, d1, dVar, dVarS, dC, dCall, dCons, dNil, dFn, ev_ret, ev_exc, dAnd, dOr, dNot, dAndV, dOrV, dNotV, dTup, dLst, dApp, dSetIx, dAug, dYes, dIt, dItA,  wipeD, gN, gT, gCons', gNil', ev_appOk, ixN_ok, Option.bind_some,
  if_true, if_false, Bool.true_and, Bool.false_and, Bool.and_true, Bool.and_false, Bool.true_or, Bool.false_or, Bool.or_true, Bool.or_false, Bool.not_true, Bool.not_false, decide_true, decide_false, reduceIte, Bool.false_eq_true,
  Int.reduceToNat, Int.reduceAdd, Int.reduceSub, Int.reduceMul, Int.reduceMod, Int.reduceLT, Int.reduceLE, Int.reduceEq, Nat.reduceAdd, Nat.reduceSub, Nat.reduceEqDiff, Nat.reduceLT, Int.reducePow, gt_iff_lt, ge_iff_le, Int.reduceGT, Int.toNat_zero, Int.toNat_one, List.set_cons_zero, List.set_cons_succ, List.getD_cons_zero, List.getD_cons_succ, decide_eq_true_eq, decide_eq_false_iff_not,
  List.getElem?_cons_zero, List.getElem?_cons_succ, addD_int, iaddD_int, subD_int, ltD_int, leD_int, gtD_int, geD_int, eqD_int, neD_int, eqD_bool, asB_bool, lenD_list, lenD_tuple, tupleD_list, tupleD_tuple, listD_list, listD_tuple, resOf, mulD_r, mulD_l, modD_int, divD_int, powD_int, addD_list, addL_list, addD_tuple, cutD_toT, cutD_fromT, cutD_toL, cutD_fromL, cutO_toL, cutO_fromL, sortD_list, sortD_tuple, zipD_list, zipD_tuple, asLT_list, asLT_tuple, dFnO, dResO, dFnS, List.take_succ_cons, List.take_zero, List.drop_succ_cons, List.drop_zero, addD_T, iaddD_T, lenD_T, cutD_to, cutD_from, eqD_T, neD_T, isiD_str, dSl, dSome, dNo, asI_int, letter_small, letter_great, ev_andM, ev_orM, maxD_int, minD_int, absD_int, isiD_bool, getD'_ints, getD'_intsT, getD'_atC, getD'_atCT, rngD_one, rngD_two, isNotD_none, isD_none])
def cellF (ns : List Int) (k : Int) : Int := if k < ns.length then ns.getD k.toNat 0 else
  (if 0 < ns.length then ns.getD (k % ns.length).toNat 0 % 2147483647 * 48271 + k * k * 7919 + 11 else k * 7919 + 5) * (if 0 < ns.length then ns.getD (k % ns.length).toNat 0 % 2147483647 * 48271 + k * k * 7919 + 11 else k * 7919 + 5) % 2147483629
theorem sq_bound {k : Int} (h0 : 0 ≤ k) (h1 : k < 1000000) : 0 ≤ k * k ∧ k * k < 1000000000000 := by
  constructor
  · exact Int.mul_nonneg h0 h0
  · have : k * k ≤ 999999 * 999999 := Int.mul_le_mul (by omega) (by omega) h0 (by omega)
    omega
theorem cell_ok (ns : List Int) (k : Int) (h0 : 0 ≤ k) (hk : k < 1000000) : G_l_cell [.list (ns.map .int), .int k] = some (.ret false (.int (cellF ns k))) := by
  refine run_rt ?_
  unfold g_l_cell cellF
  obtain ⟨q0, q1⟩ := sq_bound h0 hk
  by_cases h1 : k < ns.length
  · refine dSeq_rt (dIfS_t (by walk_at "ev"; exact okT (by omega)) ?_)
    rw [if_pos h1]
    walk_at "ev"
  · refine dSeq_nx (dIfS_f (by walk_at "ev"; exact okF (by omega)) (by walk_at "ev"; exact rfl)) ?_
    refine dSeq_nx (by walk_at "ev"; exact rfl) ?_
    rw [if_neg h1]
    by_cases h2 : 0 < ns.length
    · have m0 : 0 ≤ k % (ns.length : Int) := Int.emod_nonneg _ (by omega)
      have m1 : k % (ns.length : Int) < ns.length := Int.emod_lt_of_pos _ (by omega)
      refine dSeq_nx (dIfS_t (by walk_at "ev"; exact okT (by omega)) (by walk_at "ev"; exact rfl)) ?_
      rw [if_pos h2]
      generalize ns.getD (k % (ns.length : Int)).toNat 0 = z
      have z0 : 0 ≤ z % 2147483647 := Int.emod_nonneg _ (by omega)
      have z1 : z % 2147483647 < 2147483647 := Int.emod_lt_of_pos _ (by omega)
      generalize z % 2147483647 = y at z0 z1
      generalize k * k = kk at q0 q1
      walk_at "ev"
    · refine dSeq_nx (dIfS_f (by walk_at "ev"; exact okF (by omega)) (by walk_at "ev"; exact rfl)) ?_
      rw [if_neg h2]
      walk_at "ev"
def pickF (ns : List Int) (k m : Int) : Int := (cellF ns k % 2147483647 * (48271 + 2 * k) + 31 * k) % 2147483629 / 7 % m
theorem pick_ok (ns : List Int) (k m : Int) (h0 : 0 ≤ k) (hk : k < 1000000) (hm : 0 < m) : G_l_pick [.list (ns.map .int), .int k, .int m] = some (.ret false (.int (pickF ns k m))) := by
  refine run_rt ?_
  unfold g_l_pick
  have c := cell_ok ns k h0 hk
  refine dSeq_nx (by walk_at "ev"; simp (disch := omega) only [c, ev_ret, mbind_mok, modD_int, mulD_r, addD_int, eS_mok, List.set_cons_zero, List.set_cons_succ]; exact rfl) ?_
  walk_at "ev"
  rfl
theorem pick_nn (ns : List Int) (k m : Int) (hm : 0 < m) : 0 ≤ pickF ns k m ∧ pickF ns k m < m := ⟨Int.emod_nonneg _ (by omega), Int.emod_lt_of_pos _ hm⟩

end K14

namespace K14
open PySem PySem.Spec PyProof.Rows L2 DL
local macro_rules | `(tactic| walk_at "ev") => `(tactic| simp (disch := first | omega | (simp only [List.length_cons, List.length_nil, List.length_map, List.length_append, List.length_take, List.length_drop] <;> omega) | fail) only [cell_ok, pick_ok, startD, List.map_cons, List.map_nil, List.cons_append, List.nil_append, List.length_cons, List.length_nil, List.length_map, List.replicate, List.append_nil,
  ev_seq, ev_nx, ev_rt, ev_xc, ev_bk, ev_ct, ev_ss, ev_if, ev_ifT, ev_ifF, ev_stepN, lp_nx, lp_ct, lp_bk, lp_rt, lp_xc, wp_some,
  dSet, dSetO, dRet, dRetO, dRetVar, dNx, eS_ok, eS_mok, mbind_ok, mbind_mok, dTst, d2, d1, dVar, dVarS, dC, dCall, dCons, dNil, dFn, ev_ret, ev_exc, dAnd, dOr, dNot, dAndV, dOrV, dNotV, dTup, dLst, dApp, dSetIx, dAug, dYes, dIt, dItA,  wipeD, gN, gT, gCons', gNil', ev_appOk, ixN_ok, Option.bind_some,
  if_true, if_false, Bool.true_and, Bool.false_and, Bool.and_true, Bool.and_false, Bool.true_or, Bool.false_or, Bool.or_true, Bool.or_false, Bool.not_true, Bool.not_false, decide_true, decide_false, reduceIte, Bool.false_eq_true,
  Int.reduceToNat, Int.reduceAdd, Int.reduceSub, Int.reduceMul, Int.reduceMod, Int.reduceLT, Int.reduceLE, Int.reduceEq, Nat.reduceAdd, Nat.reduceSub, Nat.reduceEqDiff, Nat.reduceLT, Int.reducePow, gt_iff_lt, ge_iff_le, Int.reduceGT, Int.toNat_zero, Int.toNat_one, List.set_cons_zero, List.set_cons_succ, List.getD_cons_zero, List.getD_cons_succ, decide_eq_true_eq, decide_eq_false_iff_not,
  List.getElem?_cons_zero, List.getElem?_cons_succ, addD_int, iaddD_int, subD_int, ltD_int, leD_int, gtD_int, geD_int, eqD_int, neD_int, eqD_bool, asB_bool, lenD_list, lenD_tuple, tupleD_list, tupleD_tuple, listD_list, listD_tuple, resOf, mulD_r, mulD_l, modD_int, divD_int, powD_int, addD_list, addL_list, addD_tuple, cutD_toT, cutD_fromT, cutD_toL, cutD_fromL, cutO_toL, cutO_fromL, sortD_list, sortD_tuple, zipD_list, zipD_tuple, asLT_list, asLT_tuple, dFnO, dResO, dFnS, List.take_succ_cons, List.take_zero, List.drop_succ_cons, List.drop_zero, addD_T, iaddD_T, lenD_T, cutD_to, cutD_from, eqD_T, neD_T, isiD_str, dSl, dSome, dNo, asI_int, letter_small, letter_great, ev_andM, ev_orM, maxD_int, minD_int, absD_int, isiD_bool, getD'_ints, getD'_intsT, getD'_atC, getD'_atCT, rngD_one, rngD_two, isNotD_none, isD_none])
local macro_rules | `(tactic| walk_at "un") => `(tactic| simp (disch := first | omega | (simp only [List.length_cons, List.length_nil, List.length_map, List.length_append, List.length_take, List.length_drop] <;> omega) | fail) only [cell_ok, pick_ok, dFor, ev_forN, ev_forS, ev_lnx, ev_lct, ev_lbk, ev_lrt, ev_lxc, rngL_step, rngL_nil, range_0, range_1, range_2, range_3, range_4, range_5, startD, List.map_cons, List.map_nil, List.cons_append, List.nil_append, List.length_cons, List.length_nil, List.length_map, List.replicate, List.append_nil,
  ev_seq, ev_nx, ev_rt, ev_xc, ev_bk, ev_ct, ev_ss, ev_if, ev_ifT, ev_ifF, ev_stepN, lp_nx, lp_ct, lp_bk, lp_rt, lp_xc, wp_some,
  dSet, dSetO, dRet, dRetO, dRetVar, dNx, eS_ok, eS_mok, mbind_ok, mbind_mok, dTst, d2, d1, dVar, dVarS, dC, dCall, dCons, dNil, dFn, ev_ret, ev_exc, dAnd, dOr, dNot, dAndV, dOrV, dNotV, dTup, dLst, dApp, dSetIx, dAug, dYes, dIt, dItA,  wipeD, gN, gT, gCons', gNil', ev_appOk, ixN_ok, Option.bind_some,
  if_true, if_false, Bool.true_and, Bool.false_and, Bool.and_true, Bool.and_false, Bool.true_or, Bool.false_or, Bool.or_true, Bool.or_false, Bool.not_true, Bool.not_false, decide_true, decide_false, reduceIte, Bool.false_eq_true,
  Int.reduceToNat, Int.reduceAdd, Int.reduceSub, Int.reduceMul, Int.reduceMod, Int.reduceLT, Int.reduceLE, Int.reduceEq, Nat.reduceAdd, Nat.reduceSub, Nat.reduceEqDiff, Nat.reduceLT, Int.reducePow, gt_iff_lt, ge_iff_le, Int.reduceGT, Int.toNat_zero, Int.toNat_one, List.set_cons_zero, List.set_cons_succ, List.getD_cons_zero, List.getD_cons_succ, decide_eq_true_eq, decide_eq_false_iff_not,
  List.getElem?_cons_zero, List.getElem?_cons_succ, addD_int, iaddD_int, subD_int, ltD_int, leD_int, gtD_int, geD_int, eqD_int, neD_int, eqD_bool, asB_bool, lenD_list, lenD_tuple, tupleD_list, tupleD_tuple, listD_list, listD_tuple, resOf, mulD_r, mulD_l, modD_int, divD_int, powD_int, addD_list, addL_list, addD_tuple, cutD_toT, cutD_fromT, cutD_toL, cutD_fromL, cutO_toL, cutO_fromL, sortD_list, sortD_tuple, zipD_list, zipD_tuple, asLT_list, asLT_tuple, dFnO, dResO, dFnS, List.take_succ_cons, List.take_zero, List.drop_succ_cons, List.drop_zero, addD_T, iaddD_T, lenD_T, cutD_to, cutD_from, eqD_T, neD_T, isiD_str, dSl, dSome, dNo, asI_int, letter_small, letter_great, ev_andM, ev_orM, maxD_int, minD_int, absD_int, isiD_bool, getD'_ints, getD'_intsT, getD'_atC, getD'_atCT, rngD_one, rngD_two, isNotD_none, isD_none])
/-! ### names -/
def Wd (lo : Nat) (x : List Nat) : Prop := (∀ c ∈ x, lo ≤ c ∧ c < lo + 26) ∧ 1 ≤ x.length ∧ x.length ≤ 7
def Lt (lo : Nat) (x : List Nat) : Prop := ∀ c ∈ x, lo ≤ c ∧ c < lo + 26
theorem Lt.app {lo : Nat} {x y : List Nat} (h1 : Lt lo x) (h2 : Lt lo y) : Lt lo (x ++ y) := by
  intro c hc
  rcases List.mem_append.mp hc with h | h
  · exact h1 c h
  · exact h2 c h
theorem Lt.one {lo i : Nat} (h : i < 26) : Lt lo [lo + i] := by
  intro c hc
  rw [List.mem_singleton.mp hc]
  omega
theorem Lt.take {lo : Nat} {x : List Nat} (h : Lt lo x) (n : Nat) : Lt lo (x.take n) := fun c hc => h c (List.mem_of_mem_take hc)
theorem Lt.drop {lo : Nat} {x : List Nat} (h : Lt lo x) (n : Nat) : Lt lo (x.drop n) := fun c hc => h c (List.mem_of_mem_drop hc)
def Names (lo : Nat) (d : D) : Prop := ∃ x y z : List Nat, d = .list [.str (T x), .str (T y), .str (T z)] ∧ Wd lo x ∧ Wd lo y ∧ Wd lo z ∧ x ≠ y ∧ y ≠ z ∧ x ≠ z ∧ x.length ≤ 6
theorem sign_ne {lo at_ : Nat} {w : List Nat} {f i j : Int} (hw : at_ ≤ w.length) (h0 : 0 ≤ f) (h1 : f < 26) (hij : (i = 0 ∧ j = 1) ∨ (i = 1 ∧ j = 2) ∨ (i = 0 ∧ j = 2)) : w.take at_ ++ [lo + ((f + 7 * i) % 26).toNat] ++ w.drop at_ ≠ w.take at_ ++ [lo + ((f + 7 * j) % 26).toNat] ++ w.drop at_ := by
  intro h
  rw [List.append_assoc, List.append_assoc, List.append_right_inj] at h
  have h2 : lo + ((f + 7 * i) % 26).toNat = lo + ((f + 7 * j) % 26).toNat := by
    have := congrArg List.head? h
    simpa using this
  rcases hij with ⟨rfl, rfl⟩ | ⟨rfl, rfl⟩ | ⟨rfl, rfl⟩ <;> omega
theorem names_ok (ns : List Int) (k : Int) (L : Str) (lo : Nat) (hk : 0 ≤ k ∧ k < 1000) (hL : ∀ i : Int, 0 ≤ i → i < 26 → getD' (.str L) (.int i) = mok (.str (T [lo + i.toNat]))) : ∃ b d, G_l_names [.list (ns.map .int), .int k, .str L] = some (.ret b d) ∧ Names lo d := by
  refine run_wp ?_
  unfold g_l_names
  have e0 : (Str.ofString "" : Str) = T [] := rfl
  rw [e0]
  have p0 := pick_nn ns k 6 (by omega)
  walk_at "ev"
  refine wp_for (ds := rngL 0 (pickF ns k 6)) (by walk_at "ev") (fun i e => ∃ w a, e = [some (.fz (.list (ns.map .int))), some (.fz (.int k)), some (.fz (.str L)), some (.fz (.str (T w))), a, none, none, none, none] ∧ w.length = i ∧ Lt lo w) ⟨[], none, rfl, rfl, by intro c hc; cases hc⟩ ?_ ?_
  · rintro i d e hi ⟨w, a, rfl, rfl, hw⟩
    obtain ⟨h1, rfl⟩ := rng_at hi
    have p1 := pick_nn ns (k + 11 * (0 + (w.length : Int)) + 1) 26 (by omega)
    walk_at "ev"
    rw [hL _ p1.1 p1.2]
    walk_at "ev"
    exact ⟨_, _, rfl, by simp, hw.app (Lt.one (by omega))⟩
  · rintro e ⟨w, a, rfl, hl, hw⟩
    rw [rng_len] at hl
    have hl5 : w.length ≤ 5 := by omega
    have p2 := pick_nn ns (k + 2) ((w.length : Int) + 1) (by omega)
    have p3 := pick_nn ns (k + 3) 26 (by omega)
    walk_at "ev"
    generalize pickF ns (k + 2) ((w.length : Int) + 1) = at_ at p2
    generalize pickF ns (k + 3) 26 = f at p3
    refine wp_ifK ?_ ?_ <;> intro _ <;> walk_at "ev"
    · have hLf := hL f p3.1 p3.2
      have hLa := hL at_ p2.1 (by omega)
      repeat (first | walk_at "ev" | simp only [hLf, hLa])
      refine ⟨_, _, rfl, _, _, _, rfl, ⟨(hw.take 3).app (Lt.one (by omega)), by simp, by simp; omega⟩, ⟨((hw.take 3).app (Lt.one (by omega))).app (Lt.one (by omega)), by simp, by simp; omega⟩, ⟨(((hw.take 3).app (Lt.one (by omega))).app (Lt.one (by omega))).app (Lt.one (by omega)), by simp, by simp; omega⟩, ?_, ?_, ?_, by simp; omega⟩
      · intro h; have := congrArg List.length h; simp at this
      · intro h; have := congrArg List.length h; simp at this
      · intro h; have := congrArg List.length h; simp at this
    · have h0 := hL ((f + 7 * 0) % 26) (by omega) (by omega)
      have h1 := hL ((f + 7 * 1) % 26) (by omega) (by omega)
      have h2 := hL ((f + 7 * 2) % 26) (by omega) (by omega)
      simp only [Int.reduceMul] at h0 h1 h2
      repeat (first | walk_at "un" | simp only [h0, h1, h2])
      have wd : ∀ j : Int, Wd lo (w.take at_.toNat ++ [lo + ((f + 7 * j) % 26).toNat] ++ w.drop at_.toNat) := by
        intro j
        refine ⟨((hw.take _).app (Lt.one (by omega))).app (hw.drop _), by simp; omega, ?_⟩
        simp only [List.length_append, List.length_take, List.length_drop, List.length_cons, List.length_nil]
        omega
      have l6 : (w.take at_.toNat ++ [lo + ((f + 7 * 0) % 26).toNat] ++ w.drop at_.toNat).length ≤ 6 := by
        simp only [List.length_append, List.length_take, List.length_drop, List.length_cons, List.length_nil]
        omega
      have n01 := sign_ne (lo := lo) (at_ := at_.toNat) (w := w) (f := f) (i := 0) (j := 1) (by omega) p3.1 p3.2 (by omega)
      have n12 := sign_ne (lo := lo) (at_ := at_.toNat) (w := w) (f := f) (i := 1) (j := 2) (by omega) p3.1 p3.2 (by omega)
      have n02 := sign_ne (lo := lo) (at_ := at_.toNat) (w := w) (f := f) (i := 0) (j := 2) (by omega) p3.1 p3.2 (by omega)
      exact ⟨_, _, rfl, _, _, _, rfl, wd 0, wd 1, wd 2, n01, n12, n02, l6⟩
theorem unknowns_ok (ns : List Int) (k : Int) (hk : 0 ≤ k ∧ k < 1000) : ∃ b d, G_l_unknowns [.list (ns.map .int), .int k] = some (.ret b d) ∧ Names 97 d := by
  obtain ⟨b, d, h, hn⟩ := names_ok ns k _ 97 hk fun i h0 h1 => letter_small h0 h1
  refine run_wp ?_
  unfold g_l_unknowns
  walk_at "ev"
  simp only [h]
  walk_at "ev"
  exact ⟨_, _, rfl, hn⟩
theorem signs_ok (ns : List Int) (k : Int) (hk : 0 ≤ k ∧ k < 1000) : ∃ b d, G_l_signs [.list (ns.map .int), .int k] = some (.ret b d) ∧ Names 65 d := by
  obtain ⟨b, d, h, hn⟩ := names_ok ns k _ 65 hk fun i h0 h1 => letter_great h0 h1
  refine run_wp ?_
  unfold g_l_signs
  walk_at "ev"
  simp only [h]
  walk_at "ev"
  exact ⟨_, _, rfl, hn⟩
end K14

namespace K14
open PySem PySem.Spec PyProof.Rows L2 DL
local macro_rules | `(tactic| walk_at "ev") => `(tactic| simp (disch := first | omega | (simp only [List.length_cons, List.length_nil, List.length_map, List.length_append, List.length_take, List.length_drop] <;> omega) | fail) only [cell_ok, pick_ok, startD, List.map_cons, List.map_nil, List.cons_append, List.nil_append, List.length_cons, List.length_nil, List.length_map, List.replicate, List.append_nil,
  ev_seq, ev_nx, ev_rt, ev_xc, ev_bk, ev_ct, ev_ss, ev_if, ev_ifT, ev_ifF, ev_stepN, lp_nx, lp_ct, lp_bk, lp_rt, lp_xc, wp_some,
  dSet, dSetO, dRet, dRetO, dRetVar, dNx, eS_ok, eS_mok, mbind_ok, mbind_mok, dTst, d2, d1, dVar, dVarS, dC, dCall, dCons, dNil, dFn, ev_ret, ev_exc, dAnd, dOr, dNot, dAndV, dOrV, dNotV, dTup, dLst, dApp, dSetIx, dAug, dYes, dIt, dItA,  wipeD, gN, gT, gCons', gNil', ev_appOk, ixN_ok, Option.bind_some,
  if_true, if_false, Bool.true_and, Bool.false_and, Bool.and_true, Bool.and_false, Bool.true_or, Bool.false_or, Bool.or_true, Bool.or_false, Bool.not_true, Bool.not_false, decide_true, decide_false, reduceIte, Bool.false_eq_true,
  Int.reduceToNat, Int.reduceAdd, Int.reduceSub, Int.reduceMul, Int.reduceMod, Int.reduceLT, Int.reduceLE, Int.reduceEq, Nat.reduceAdd, Nat.reduceSub, Nat.reduceEqDiff, Nat.reduceLT, Int.reducePow, gt_iff_lt, ge_iff_le, Int.reduceGT, Int.toNat_zero, Int.toNat_one, List.set_cons_zero, List.set_cons_succ, List.getD_cons_zero, List.getD_cons_succ, decide_eq_true_eq, decide_eq_false_iff_not,
  List.getElem?_cons_zero, List.getElem?_cons_succ, addD_int, iaddD_int, subD_int, ltD_int, leD_int, gtD_int, geD_int, eqD_int, neD_int, eqD_bool, asB_bool, lenD_list, lenD_tuple, tupleD_list, tupleD_tuple, listD_list, listD_tuple, resOf, mulD_r, mulD_l, modD_int, divD_int, powD_int, addD_list, addL_list, addD_tuple, cutD_toT, cutD_fromT, cutD_toL, cutD_fromL, cutO_toL, cutO_fromL, sortD_list, sortD_tuple, zipD_list, zipD_tuple, asLT_list, asLT_tuple, dFnO, dResO, dFnS, List.take_succ_cons, List.take_zero, List.drop_succ_cons, List.drop_zero, addD_T, iaddD_T, lenD_T, cutD_to, cutD_from, eqD_T, neD_T, isiD_str, dSl, dSome, dNo, asI_int, letter_small, letter_great, ev_andM, ev_orM, maxD_int, minD_int, absD_int, isiD_bool, getD'_ints, getD'_intsT, getD'_atC, getD'_atCT, rngD_one, rngD_two, isNotD_none, isD_none])
local macro_rules | `(tactic| walk_at "un") => `(tactic| simp (disch := first | omega | (simp only [List.length_cons, List.length_nil, List.length_map, List.length_append, List.length_take, List.length_drop] <;> omega) | fail) only [cell_ok, pick_ok, dFor, ev_forN, ev_forS, ev_lnx, ev_lct, ev_lbk, ev_lrt, ev_lxc, rngL_step, rngL_nil, range_0, range_1, range_2, range_3, range_4, range_5, startD, List.map_cons, List.map_nil, List.cons_append, List.nil_append, List.length_cons, List.length_nil, List.length_map, List.replicate, List.append_nil,
  ev_seq, ev_nx, ev_rt, ev_xc, ev_bk, ev_ct, ev_ss, ev_if, ev_ifT, ev_ifF, ev_stepN, lp_nx, lp_ct, lp_bk, lp_rt, lp_xc, wp_some,
  dSet, dSetO, dRet, dRetO, dRetVar, dNx, eS_ok, eS_mok, mbind_ok, mbind_mok, dTst, d2, d1, dVar, dVarS, dC, dCall, dCons, dNil, dFn, ev_ret, ev_exc, dAnd, dOr, dNot, dAndV, dOrV, dNotV, dTup, dLst, dApp, dSetIx, dAug, dYes, dIt, dItA,  wipeD, gN, gT, gCons', gNil', ev_appOk, ixN_ok, Option.bind_some,
  if_true, if_false, Bool.true_and, Bool.false_and, Bool.and_true, Bool.and_false, Bool.true_or, Bool.false_or, Bool.or_true, Bool.or_false, Bool.not_true, Bool.not_false, decide_true, decide_false, reduceIte, Bool.false_eq_true,
  Int.reduceToNat, Int.reduceAdd, Int.reduceSub, Int.reduceMul, Int.reduceMod, Int.reduceLT, Int.reduceLE, Int.reduceEq, Nat.reduceAdd, Nat.reduceSub, Nat.reduceEqDiff, Nat.reduceLT, Int.reducePow, gt_iff_lt, ge_iff_le, Int.reduceGT, Int.toNat_zero, Int.toNat_one, List.set_cons_zero, List.set_cons_succ, List.getD_cons_zero, List.getD_cons_succ, decide_eq_true_eq, decide_eq_false_iff_not,
  List.getElem?_cons_zero, List.getElem?_cons_succ, addD_int, iaddD_int, subD_int, ltD_int, leD_int, gtD_int, geD_int, eqD_int, neD_int, eqD_bool, asB_bool, lenD_list, lenD_tuple, tupleD_list, tupleD_tuple, listD_list, listD_tuple, resOf, mulD_r, mulD_l, modD_int, divD_int, powD_int, addD_list, addL_list, addD_tuple, cutD_toT, cutD_fromT, cutD_toL, cutD_fromL, cutO_toL, cutO_fromL, sortD_list, sortD_tuple, zipD_list, zipD_tuple, asLT_list, asLT_tuple, dFnO, dResO, dFnS, List.take_succ_cons, List.take_zero, List.drop_succ_cons, List.drop_zero, addD_T, iaddD_T, lenD_T, cutD_to, cutD_from, eqD_T, neD_T, isiD_str, dSl, dSome, dNo, asI_int, letter_small, letter_great, ev_andM, ev_orM, maxD_int, minD_int, absD_int, isiD_bool, getD'_ints, getD'_intsT, getD'_atC, getD'_atCT, rngD_one, rngD_two, isNotD_none, isD_none])
/-! ### texts of signs -/
inductive Tk where
  | x | s | n
  | c (k : Nat)
  deriving DecidableEq
structure Wds where
  x : List Nat
  s : List Nat
  n : List Nat
  v : Int
structure Wds.Ok (w : Wds) : Prop where
  x : (∀ c ∈ w.x, 97 ≤ c ∧ c < 123) ∧ 1 ≤ w.x.length ∧ w.x.length ≤ 6
  s : (∀ c ∈ w.s, 65 ≤ c ∧ c < 91) ∧ 1 ≤ w.s.length ∧ w.s.length ≤ 6
  n : (∀ c ∈ w.n, 48 ≤ c ∧ c < 58) ∧ 1 ≤ w.n.length ∧ w.n.length ≤ 18
  h : ∀ c ∈ w.n.head?, c ≠ 48
  v : 1 ≤ w.v ∧ w.v < 1000000000000000000 ∧ PySem.intText? (T w.n) = some w.v
def fl1 (w : Wds) : Tk → List Nat
  | .x => w.x
  | .s => w.s
  | .n => w.n
  | .c k => [k]
def fl (w : Wds) (ts : List Tk) : List Nat := ts.flatMap (fl1 w)
theorem fl_app (w : Wds) (a b : List Tk) : fl w (a ++ b) = fl w a ++ fl w b := List.flatMap_append
theorem fl_cons (w : Wds) (t : Tk) (b : List Tk) : fl w (t :: b) = fl1 w t ++ fl w b := List.flatMap_cons
/-- which kind a sign is of: small, great, figure, other -/
def kind (c : Nat) : Nat := if 97 ≤ c ∧ c < 123 then 0 else if 65 ≤ c ∧ c < 91 then 1 else if 48 ≤ c ∧ c < 58 then 2 else 3
def cls : Tk → Nat
  | .x => 0
  | .s => 1
  | .n => 2
  | .c k => kind k
theorem kind_cls {w : Wds} (h : w.Ok) (t : Tk) : ∀ c ∈ fl1 w t, kind c = cls t := by
  intro c hc
  cases t with
  | x => have := h.x.1 c hc; unfold kind; rw [if_pos this]; rfl
  | s => have := h.s.1 c hc; unfold kind; rw [if_neg (by omega), if_pos this]; rfl
  | n => have := h.n.1 c hc; unfold kind; rw [if_neg (by omega), if_neg (by omega), if_pos this]; rfl
  | c k => have : c ∈ [k] := hc; rw [List.mem_singleton.mp this]; rfl
theorem fl1_ne {w : Wds} (h : w.Ok) (t : Tk) : ∃ c l, fl1 w t = c :: l := by
  cases t with
  | x => have := h.x.2.1; cases e : w.x with | nil => rw [e] at this; simp at this | cons c l => exact ⟨c, l, e⟩
  | s => have := h.s.2.1; cases e : w.s with | nil => rw [e] at this; simp at this | cons c l => exact ⟨c, l, e⟩
  | n => have := h.n.2.1; cases e : w.n with | nil => rw [e] at this; simp at this | cons c l => exact ⟨c, l, e⟩
  | c k => exact ⟨k, [], rfl⟩
/-- the signs of a kind, as far as they go -/
def aRun (k : Nat) : List Tk → List Tk × List Tk
  | [] => ([], [])
  | t :: ts => if cls t = k then (t :: (aRun k ts).1, (aRun k ts).2) else ([], t :: ts)
theorem aRun_app (k : Nat) : ∀ ts : List Tk, (aRun k ts).1 ++ (aRun k ts).2 = ts
  | [] => rfl
  | t :: ts => by
    unfold aRun
    split
    · rw [List.cons_append, aRun_app k ts]
    · rfl
theorem takeWhile_all {p : Nat → Bool} : ∀ {a b : List Nat}, (∀ c ∈ a, p c = true) → (a ++ b).takeWhile p = a ++ b.takeWhile p
  | [], _, _ => rfl
  | c :: a, b, h => by
    rw [List.cons_append, List.takeWhile_cons_of_pos (h c List.mem_cons_self), takeWhile_all fun d hd => h d (List.mem_cons_of_mem _ hd), List.cons_append]
theorem run_fl {w : Wds} (h : w.Ok) (k : Nat) : ∀ ts : List Tk, (fl w ts).takeWhile (fun c => decide (kind c = k)) = fl w (aRun k ts).1
  | [] => rfl
  | t :: ts => by
    rw [fl_cons]
    unfold aRun
    split
    · rename_i hk
      rw [takeWhile_all (fun c hc => by rw [kind_cls h t c hc]; exact decide_eq_true hk), run_fl h k ts, fl_cons]
    · rename_i hk
      obtain ⟨c, l, e⟩ := fl1_ne h t
      have hc := kind_cls h t c (by rw [e]; simp)
      rw [e, List.cons_append, List.takeWhile_cons_of_neg (by rw [hc]; simpa using hk)]
      rfl
/-! ### slices -/
theorem cut_at {A B : List Nat} {at_ : Int} (k : Nat) (hl : (A ++ B).length ≤ 16777216) (h : at_ = A.length) : cutD (.str (T (A ++ B))) (some at_) (some (at_ + (k : Nat))) = mok (.str (T (B.take k))) := by
  subst h
  rw [cutD_T hl, HT.sIx_nat, show ((A.length : Nat) : Int) + ((k : Nat) : Int) = ((A.length + k : Nat) : Int) by omega, HT.sIx_nat]
  congr 3
  have e1 : min A.length (A.length + B.length) = A.length := by omega
  rw [List.length_append, e1, List.drop_left]
  rcases Nat.le_total k B.length with h | h
  · have e2 : min (A.length + k) (A.length + B.length) - A.length = k := by omega
    rw [e2]
  · have e2 : min (A.length + k) (A.length + B.length) - A.length = B.length := by omega
    rw [e2, List.take_of_length_le (Nat.le_refl _), List.take_of_length_le h]
def small : Str := Str.ofString "abcdefghijklmnopqrstuvwxyz"
def great : Str := Str.ofString "ABCDEFGHIJKLMNOPQRSTUVWXYZ"
def figs : Str := Str.ofString "0123456789"
def alpha : Nat → Str
  | 0 => small
  | 1 => great
  | _ => figs
theorem in_alpha {c k : Nat} (hc : c < 128) (hk : k < 3) : inSD (.str (T [c])) (.str (alpha k)) = mok (.bool (decide (kind c = k))) := by
  have h0 : ∀ c : Nat, c < 128 → (!(Builtin.Str.occurrences (alpha 0) (T [c]) 0 (alpha 0).length 1).isEmpty) = decide (kind c = 0) := by decide +kernel
  have h1 : ∀ c : Nat, c < 128 → (!(Builtin.Str.occurrences (alpha 1) (T [c]) 0 (alpha 1).length 1).isEmpty) = decide (kind c = 1) := by decide +kernel
  have h2 : ∀ c : Nat, c < 128 → (!(Builtin.Str.occurrences (alpha 2) (T [c]) 0 (alpha 2).length 1).isEmpty) = decide (kind c = 2) := by decide +kernel
  have : k = 0 ∨ k = 1 ∨ k = 2 := by omega
  show mok (PyData.bool (!(Builtin.Str.occurrences (alpha k) (T [c]) 0 (alpha k).length 1).isEmpty)) = _
  rcases this with rfl | rfl | rfl
  · rw [h0 c hc]
  · rw [h1 c hc]
  · rw [h2 c hc]
/-! ### run_of, word_at, closed -/
theorem takeWhile_len {p : Nat → Bool} : ∀ (l : List Nat), (l.takeWhile p).length ≤ l.length
  | [] => Nat.le_refl _
  | c :: l => by
    by_cases h : p c = true
    · rw [List.takeWhile_cons_of_pos h, List.length_cons, List.length_cons]
      have := takeWhile_len (p := p) l
      omega
    · rw [List.takeWhile_cons_of_neg (by simpa using h)]
      simp
theorem whileD_more {p : DEnv → M Bool} {g : DEnv → Option Out} {n : Nat} {env e : DEnv} (h1 : p env = mok true) (h2 : g env = some (.nx e)) : whileD p g (n + 1) env = whileD p g n e := by
  simp only [whileD, h1, eS_mok, if_true, h2]
theorem whileD_done {p : DEnv → M Bool} {g : DEnv → Option Out} {n : Nat} {env : DEnv} (h1 : p env = mok false) : whileD p g (n + 1) env = some (.nx env) := by
  simp only [whileD, h1, eS_mok, Bool.false_eq_true, if_false]
theorem run_ok (k : Nat) (hk : k < 3) (A B : List Nat) (hl : (A ++ B).length ≤ 690) (hc : ∀ c ∈ B, c < 128) : G_run_of [.str (T (A ++ B)), .int A.length, .str (alpha k)] = some (.ret false (.str (T (B.takeWhile fun c => decide (kind c = k))))) := by
  have hla : (A ++ B).length = A.length + B.length := List.length_append
  refine run_rt ?_
  unfold g_run_of
  refine dSeq_nx (e := [some (.fz (.str (T (A ++ B)))), some (.fz (.int A.length)), some (.fz (.str (alpha k))), some (.fz (.int A.length))]) rfl ?_
  have loop : ∀ (C D' : List Nat) (m : Nat), B = C ++ D' → D'.length < m → whileD (dAnd (dTst (d2 ltD (dVarS 3) (dCall lenD (dCons (dVarS 0) dNil)))) (dTst (d2 inSD (d2 getD' (dVarS 0) (dVarS 3)) (dVarS 2)))) (dAug 3 iaddD (dC (.int 1))) m [some (.fz (.str (T (A ++ B)))), some (.fz (.int A.length)), some (.fz (.str (alpha k))), some (.fz (.int ((A.length + C.length : Nat) : Int)))] = some (.nx [some (.fz (.str (T (A ++ B)))), some (.fz (.int A.length)), some (.fz (.str (alpha k))), some (.fz (.int ((A.length + C.length + (D'.takeWhile fun c => decide (kind c = k)).length : Nat) : Int)))]) := by
    intro C D'
    induction D' generalizing C with
    | nil =>
      intro m hB hm
      obtain ⟨m, rfl⟩ : ∃ m', m = m' + 1 := ⟨m - 1, by simp at hm; omega⟩
      rw [List.append_nil] at hB
      rw [whileD_done]
      · rfl
      · have e1 : decide (((A.length + C.length : Nat) : Int) < ((A ++ B).length : Int)) = false := decide_eq_false (by rw [hla, hB]; omega)
        repeat (first | walk_at "ev" | simp only [e1])
        simp only [if_neg (of_decide_eq_false e1)]
    | cons c D' ih =>
      intro m hB hm
      obtain ⟨m, rfl⟩ : ∃ m', m = m' + 1 := ⟨m - 1, by simp at hm; omega⟩
      have hlB : B.length = C.length + (D'.length + 1) := by rw [hB, List.length_append, List.length_cons]
      have e1 : ((A.length + C.length : Nat) : Int) < ((A ++ B).length : Int) := by rw [hla, hlB]; omega
      have hg : getD' (.str (T (A ++ B))) (.int ((A.length + C.length : Nat) : Int)) = mok (.str (T [c])) := by
        refine getD'_T (by omega) (by omega) ?_
        rw [Int.toNat_natCast, hB, ← List.append_assoc, List.getElem?_append_right (by simp), List.length_append, Nat.sub_self]
        rfl
      have hin := in_alpha (c := c) (k := k) (hc c (by rw [hB]; simp)) hk
      have htest : dAnd (dTst (d2 ltD (dVarS 3) (dCall lenD (dCons (dVarS 0) dNil)))) (dTst (d2 inSD (d2 getD' (dVarS 0) (dVarS 3)) (dVarS 2))) [some (.fz (.str (T (A ++ B)))), some (.fz (.int A.length)), some (.fz (.str (alpha k))), some (.fz (.int ((A.length + C.length : Nat) : Int)))] = mok (decide (kind c = k)) := by
        have e2 : lenD [.str (T (A ++ B))] = mok (.int (A ++ B).length) := lenD_T (by omega)
        simp only [dAnd, dTst, d2, dVarS, dCall, dCons, dNil, List.getElem?_cons_zero, List.getElem?_cons_succ, mbind_mok, e2, ltD_int, asB_bool, hg, hin, decide_eq_true e1, if_true]
      by_cases hkc : kind c = k
      · rw [whileD_more (e := [some (.fz (.str (T (A ++ B)))), some (.fz (.int A.length)), some (.fz (.str (alpha k))), some (.fz (.int ((A.length + (C ++ [c]).length : Nat) : Int)))]) (by rw [htest, decide_eq_true hkc])]
        · rw [ih (C ++ [c]) m (by rw [hB, List.append_assoc]; rfl) (by simp at hm; omega)]
          rw [List.takeWhile_cons_of_pos (by simpa using hkc), List.length_append, List.length_cons, List.length_cons, List.length_nil]
          have e9 : ∀ t : Nat, A.length + (C.length + (0 + 1)) + t = A.length + C.length + (t + 1) := fun t => by omega
          rw [e9]
        · walk_at "ev"
          rw [List.length_append, List.length_cons, List.length_nil]
          have e9 : ((A.length + C.length : Nat) : Int) + 1 = ((A.length + (C.length + (0 + 1)) : Nat) : Int) := by omega
          rw [e9]
      · rw [whileD_done (by rw [htest, decide_eq_false hkc]), List.takeWhile_cons_of_neg (by simpa using hkc)]
        rfl
  refine dSeq_nx (loop [] B 700 rfl (by omega)) ?_
  have hcut := cut_at (A := A) (B := B) (at_ := A.length) (B.takeWhile fun c => decide (kind c = k)).length (by omega) rfl
  have htk : B.take (B.takeWhile fun c => decide (kind c = k)).length = B.takeWhile fun c => decide (kind c = k) := by
    have := List.takeWhile_prefix (p := fun c => decide (kind c = k)) (l := B)
    exact (List.prefix_iff_eq_take.mp this).symm
  rw [htk] at hcut
  show eS (cutD (.str (T (A ++ B))) (some A.length) (some ((A.length + ([] : List Nat).length + (B.takeWhile fun c => decide (kind c = k)).length : Nat) : Int))) _ _ = _
  rw [show ((A.length + ([] : List Nat).length + (B.takeWhile fun c => decide (kind c = k)).length : Nat) : Int) = (A.length : Int) + ((B.takeWhile fun c => decide (kind c = k)).length : Nat) by simp, hcut]
  rfl
end K14

namespace K14
open PySem PySem.Spec PyProof.Rows L2 DL
local macro_rules | `(tactic| walk_at "ev") => `(tactic| simp (disch := first | omega | (simp only [List.length_cons, List.length_nil, List.length_map, List.length_append, List.length_take, List.length_drop] <;> omega) | fail) only [cell_ok, pick_ok, startD, List.map_cons, List.map_nil, List.cons_append, List.nil_append, List.length_cons, List.length_nil, List.length_map, List.replicate, List.append_nil,
  ev_seq, ev_nx, ev_rt, ev_xc, ev_bk, ev_ct, ev_ss, ev_if, ev_ifT, ev_ifF, ev_stepN, lp_nx, lp_ct, lp_bk, lp_rt, lp_xc, wp_some,
  dSet, dSetO, dRet, dRetO, dRetVar, dNx, eS_ok, eS_mok, mbind_ok, mbind_mok, dTst, d2, d1, dVar, dVarS, dC, dCall, dCons, dNil, dFn, ev_ret, ev_exc, dAnd, dOr, dNot, dAndV, dOrV, dNotV, dTup, dLst, dApp, dSetIx, dAug, dYes, dIt, dItA,  wipeD, gN, gT, gCons', gNil', ev_appOk, ixN_ok, Option.bind_some,
  if_true, if_false, Bool.true_and, Bool.false_and, Bool.and_true, Bool.and_false, Bool.true_or, Bool.false_or, Bool.or_true, Bool.or_false, Bool.not_true, Bool.not_false, decide_true, decide_false, reduceIte, Bool.false_eq_true,
  Int.reduceToNat, Int.reduceAdd, Int.reduceSub, Int.reduceMul, Int.reduceMod, Int.reduceLT, Int.reduceLE, Int.reduceEq, Nat.reduceAdd, Nat.reduceSub, Nat.reduceEqDiff, Nat.reduceLT, Int.reducePow, gt_iff_lt, ge_iff_le, Int.reduceGT, Int.toNat_zero, Int.toNat_one, List.set_cons_zero, List.set_cons_succ, List.getD_cons_zero, List.getD_cons_succ, decide_eq_true_eq, decide_eq_false_iff_not,
  List.getElem?_cons_zero, List.getElem?_cons_succ, addD_int, iaddD_int, subD_int, ltD_int, leD_int, gtD_int, geD_int, eqD_int, neD_int, eqD_bool, asB_bool, lenD_list, lenD_tuple, tupleD_list, tupleD_tuple, listD_list, listD_tuple, resOf, mulD_r, mulD_l, modD_int, divD_int, powD_int, addD_list, addL_list, addD_tuple, cutD_toT, cutD_fromT, cutD_toL, cutD_fromL, cutO_toL, cutO_fromL, sortD_list, sortD_tuple, zipD_list, zipD_tuple, asLT_list, asLT_tuple, dFnO, dResO, dFnS, List.take_succ_cons, List.take_zero, List.drop_succ_cons, List.drop_zero, addD_T, iaddD_T, lenD_T, cutD_to, cutD_from, eqD_T, neD_T, isiD_str, dSl, dSome, dNo, asI_int, letter_small, letter_great, ev_andM, ev_orM, maxD_int, minD_int, absD_int, isiD_bool, getD'_ints, getD'_intsT, getD'_atC, getD'_atCT, rngD_one, rngD_two, isNotD_none, isD_none])
local macro_rules | `(tactic| walk_at "un") => `(tactic| simp (disch := first | omega | (simp only [List.length_cons, List.length_nil, List.length_map, List.length_append, List.length_take, List.length_drop] <;> omega) | fail) only [cell_ok, pick_ok, dFor, ev_forN, ev_forS, ev_lnx, ev_lct, ev_lbk, ev_lrt, ev_lxc, rngL_step, rngL_nil, range_0, range_1, range_2, range_3, range_4, range_5, startD, List.map_cons, List.map_nil, List.cons_append, List.nil_append, List.length_cons, List.length_nil, List.length_map, List.replicate, List.append_nil,
  ev_seq, ev_nx, ev_rt, ev_xc, ev_bk, ev_ct, ev_ss, ev_if, ev_ifT, ev_ifF, ev_stepN, lp_nx, lp_ct, lp_bk, lp_rt, lp_xc, wp_some,
  dSet, dSetO, dRet, dRetO, dRetVar, dNx, eS_ok, eS_mok, mbind_ok, mbind_mok, dTst, d2, d1, dVar, dVarS, dC, dCall, dCons, dNil, dFn, ev_ret, ev_exc, dAnd, dOr, dNot, dAndV, dOrV, dNotV, dTup, dLst, dApp, dSetIx, dAug, dYes, dIt, dItA,  wipeD, gN, gT, gCons', gNil', ev_appOk, ixN_ok, Option.bind_some,
  if_true, if_false, Bool.true_and, Bool.false_and, Bool.and_true, Bool.and_false, Bool.true_or, Bool.false_or, Bool.or_true, Bool.or_false, Bool.not_true, Bool.not_false, decide_true, decide_false, reduceIte, Bool.false_eq_true,
  Int.reduceToNat, Int.reduceAdd, Int.reduceSub, Int.reduceMul, Int.reduceMod, Int.reduceLT, Int.reduceLE, Int.reduceEq, Nat.reduceAdd, Nat.reduceSub, Nat.reduceEqDiff, Nat.reduceLT, Int.reducePow, gt_iff_lt, ge_iff_le, Int.reduceGT, Int.toNat_zero, Int.toNat_one, List.set_cons_zero, List.set_cons_succ, List.getD_cons_zero, List.getD_cons_succ, decide_eq_true_eq, decide_eq_false_iff_not,
  List.getElem?_cons_zero, List.getElem?_cons_succ, addD_int, iaddD_int, subD_int, ltD_int, leD_int, gtD_int, geD_int, eqD_int, neD_int, eqD_bool, asB_bool, lenD_list, lenD_tuple, tupleD_list, tupleD_tuple, listD_list, listD_tuple, resOf, mulD_r, mulD_l, modD_int, divD_int, powD_int, addD_list, addL_list, addD_tuple, cutD_toT, cutD_fromT, cutD_toL, cutD_fromL, cutO_toL, cutO_fromL, sortD_list, sortD_tuple, zipD_list, zipD_tuple, asLT_list, asLT_tuple, dFnO, dResO, dFnS, List.take_succ_cons, List.take_zero, List.drop_succ_cons, List.drop_zero, addD_T, iaddD_T, lenD_T, cutD_to, cutD_from, eqD_T, neD_T, isiD_str, dSl, dSome, dNo, asI_int, letter_small, letter_great, ev_andM, ev_orM, maxD_int, minD_int, absD_int, isiD_bool, getD'_ints, getD'_intsT, getD'_atC, getD'_atCT, rngD_one, rngD_two, isNotD_none, isD_none])
/-! ### the reader on signs and words -/
inductive AN where
  | x | s
  | lit (l : List Nat)
  deriving DecidableEq
inductive AC where
  | n
  | k (i : Nat)
  deriving DecidableEq
inductive AF where
  | fl (l : List (AN × AC))
  | th (w : AN) (ps : List AF)
inductive AR where
  | er
  | ok (f : AF) (r : List Tk)
def cw (w : Wds) : AN → List Nat
  | .x => w.x
  | .s => w.s
  | .lit l => l
def cc (w : Wds) : AC → Int
  | .n => w.v
  | .k i => i
def anyW (w : List Nat) : D := .tuple [.str "any", .str (T w)]
def bagA (w : Wds) (l : List (AN × AC)) : List KC := l.map fun p => (anyW (cw w p.1), cc w p.2)
mutual
def conc (w : Wds) : AF → D
  | .fl l => .tuple ((bagA w l).map pr)
  | .th a ps => .tuple [.tuple [.tuple [.str "of", .str (T (cw w a)), .tuple (concs w ps)], .int 1]]
def concs (w : Wds) : List AF → List D
  | [] => []
  | f :: fs => conc w f :: concs w fs
end
theorem concs_app (w : Wds) : ∀ (a b : List AF), concs w (a ++ b) = concs w a ++ concs w b
  | [], _ => by rw [List.nil_append, concs, List.nil_append]
  | f :: a, b => by rw [List.cons_append, concs, concs, concs_app w a b, List.cons_append]
theorem concs_len (w : Wds) : ∀ a : List AF, (concs w a).length = a.length
  | [] => by rw [concs]; rfl
  | f :: a => by rw [concs, List.length_cons, List.length_cons, concs_len w a]
def lits : List Tk → Option (List Nat)
  | [] => some []
  | .c k :: ts => (lits ts).map (k :: ·)
  | _ :: _ => none
theorem lits_fl (w : Wds) : ∀ {ts : List Tk} {l : List Nat}, lits ts = some l → fl w ts = l
  | [], l, h => by cases h; rfl
  | .c k :: ts, l, h => by
    obtain ⟨m, h1, rfl⟩ := Option.map_eq_some_iff.mp h
    rw [fl_cons, lits_fl w h1]
    rfl
  | .x :: _, _, h => by cases h
  | .s :: _, _, h => by cases h
  | .n :: _, _, h => by cases h
/-- a word: none: not told; some none: no word -/
def aWord (k : Nat) (ts : List Tk) : Option (Option (AN × List Tk)) := match (aRun k ts).1 with
  | [] => some none
  | [.x] => some (some (.x, (aRun k ts).2))
  | [.s] => some (some (.s, (aRun k ts).2))
  | run => match lits run with
    | some l => if l.length ≤ 6 then some (some (.lit l, (aRun k ts).2)) else some none
    | none => none
def aClosed : List Tk → Option (List Tk)
  | .c 41 :: r => some r
  | _ => none
def aParts (S : List Tk → Option AR) : Nat → AN → List AF → List Tk → Option AR
  | m + 1, a, ps, .c 44 :: .c 32 :: r => match S r with
    | none => none
    | some .er => some .er
    | some (.ok f r2) => aParts S m a (ps ++ [f]) r2
  | _, a, ps, r => match aClosed r with
    | some r' => some (.ok (.th a ps) r')
    | none => some .er
def aThing (S : List Tk → Option AR) (ts : List Tk) : Option AR := match aWord 1 ts with
  | none => none
  | some none => some .er
  | some (some (a, .c 40 :: r1)) => match S r1 with
    | none => none
    | some .er => some .er
    | some (.ok f r2) => aParts S 2 a [f] r2
  | some (some (a, r)) => some (.ok (.th a []) r)
def aName (ts : List Tk) : Option AR := match aWord 0 ts with
  | none => none
  | some none => some .er
  | some (some (a, r)) => some (.ok (.fl [(a, .k 1)]) r)
def aBody (S Th : List Tk → Option AR) : List Tk → Option AR
  | .c 40 :: r => match S r with
    | none => none
    | some .er => some .er
    | some (.ok f r2) => match aClosed r2 with
      | some r' => some (.ok f r')
      | none => some .er
  | [] => Th []
  | t :: ts => if cls t = 0 then aName (t :: ts) else Th (t :: ts)
def figLen (run : List Tk) : Nat := if run = [.n] then 0 else match lits run with
  | some l => if l.length ≤ 18 then 0 else 1
  | none => 2
def aTimes (run : List Tk) : AF → Option AF
  | .fl [(a, .k 1)] => if run = [.n] then some (.fl [(a, .n)]) else match lits run with
    | some l => if 0 < NumText.digitsVal l ∧ NumText.digitsVal l < 1000000000000000000 then some (.fl [(a, .k (NumText.digitsVal l))]) else none
    | none => none
  | _ => none
def aPart (Bd : List Tk → Option AR) (ts : List Tk) : Option AR := match (aRun 2 ts).1 with
  | [] => Bd ts
  | t :: run => if t = .c 48 then (if run = [] then some (.ok (.fl []) (aRun 2 ts).2) else some .er) else match figLen (t :: run) with
    | 0 => match Bd (aRun 2 ts).2 with
      | none => none
      | some .er => some .er
      | some (.ok f r2) => match aTimes (t :: run) f with
        | some f' => some (.ok f' r2)
        | none => none
    | 1 => some .er
    | _ => match Bd (aRun 2 ts).2 with
      | some .er => some .er
      | _ => none
def aPlus : AF → AF → Option AF
  | .fl [], .fl [] => some (.fl [])
  | .fl [], .fl [(a, .k j)] => if 0 < j ∧ a ≠ .lit [] then some (.fl [(a, .k j)]) else none
  | .fl [(a, .k i)], .fl [] => if 0 < i ∧ a ≠ .lit [] then some (.fl [(a, .k i)]) else none
  | .fl [(a, .k i)], .fl [(b, .k j)] => if 0 < i ∧ 0 < j ∧ a ≠ .lit [] then (if a = b then some (.fl [(a, .k (i + j))]) else if a = .lit [97] ∧ b = .lit [97, 98, 99, 100] then some (.fl [(a, .k i), (b, .k j)]) else none) else none
  | _, _ => none
def aLoop (Pt : List Tk → Option AR) : Nat → AF → List Tk → Option AR
  | 0, _, _ => none
  | m + 1, f, .c 32 :: .c 43 :: .c 32 :: r => match Pt r with
    | none => none
    | some .er => some .er
    | some (.ok g r2) => match aPlus f g with
      | some h => aLoop Pt m h r2
      | none => none
  | _ + 1, f, r => some (.ok f r)
def aSum (Pt : List Tk → Option AR) (ts : List Tk) : Option AR := match Pt ts with
  | none => none
  | some .er => some .er
  | some (.ok f r) => aLoop Pt 200 f r
structure Rd where
  thing : List Tk → Option AR
  body : List Tk → Option AR
  part : List Tk → Option AR
  sum : List Tk → Option AR
def rd : Nat → Rd
  | 0 => ⟨fun _ => none, fun _ => none, fun _ => none, fun _ => none⟩
  | n + 1 => ⟨aThing (rd n).sum, aBody (rd n).sum (rd n).thing, aPart (rd n).body, aSum (rd n).part⟩
/-! ### looking ahead -/
theorem peek {w : Wds} (h : w.Ok) : ∀ (L : List Nat) (ts : List Tk), (∀ k ∈ L, kind k = 3) → ((fl w ts).take L.length = L ↔ ∃ r, ts = L.map Tk.c ++ r)
  | [], ts, _ => ⟨fun _ => ⟨ts, rfl⟩, fun _ => rfl⟩
  | k :: L, [], _ => ⟨fun e => (by cases e), fun ⟨r, e⟩ => (by cases e)⟩
  | k :: L, t :: ts, hk => by
    have hk0 := hk k List.mem_cons_self
    have ih := peek h L ts fun j hj => hk j (List.mem_cons_of_mem _ hj)
    constructor
    · intro e
      obtain ⟨c, l, e1⟩ := fl1_ne h t
      rw [fl_cons, e1, List.cons_append, List.length_cons, List.take_succ_cons] at e
      injection e with e2 e3
      have hc := kind_cls h t c (by rw [e1]; simp)
      rw [e2, hk0] at hc
      cases t with
      | x => cases hc
      | s => cases hc
      | n => cases hc
      | c j =>
        have e1 : [j] = c :: l := e1
        injection e1 with e4 e5
        subst e4 e5 e2
        obtain ⟨r, rfl⟩ := ih.mp e3
        exact ⟨r, rfl⟩
    · rintro ⟨r, e⟩
      rw [List.map_cons, List.cons_append] at e
      injection e with e1 e2
      subst e1
      rw [fl_cons]
      show (k :: fl w ts).take (L.length + 1) = _
      rw [List.take_succ_cons, ih.mpr ⟨r, e2⟩]
/-- the whole text -/
structure Tx (w : Wds) (W : List Tk) : Prop where
  len : (fl w W).length ≤ 690
  asc : ∀ k, Tk.c k ∈ W → k < 128
theorem fl_asc {w : Wds} (h : w.Ok) {W : List Tk} (hW : Tx w W) : ∀ c ∈ fl w W, c < 128 := by
  intro c hc
  obtain ⟨t, ht, hct⟩ := List.mem_flatMap.mp hc
  cases t with
  | x => have := h.x.1 c hct; omega
  | s => have := h.s.1 c hct; omega
  | n => have := h.n.1 c hct; omega
  | c k =>
    have : c ∈ [k] := hct
    rw [List.mem_singleton.mp this]
    exact hW.asc k ht
def Nt (E : Errs) : Option Res := some (.exc (.ref (E.c "NoText")))
theorem word_ok {w : Wds} (h : w.Ok) (E : Errs) (k : Nat) (hk : k < 2) (pre ts : List Tk) (hW : Tx w (pre ++ ts)) :
    match aWord k ts with
    | none => True
    | some none => G_word_at E [.str (T (fl w (pre ++ ts))), .int (fl w pre).length, .str (alpha k)] = Nt E
    | some (some (a, r)) => ∃ mid, ts = mid ++ r ∧ fl w mid = cw w a ∧ 1 ≤ (cw w a).length ∧ (cw w a).length ≤ 6 ∧ G_word_at E [.str (T (fl w (pre ++ ts))), .int (fl w pre).length, .str (alpha k)] = some (.ret false (.str (T (cw w a)))) := by
  have hr := run_ok k (by omega) (fl w pre) (fl w ts) (by rw [← fl_app]; exact hW.len) (fun c hc => fl_asc h hW c (by rw [fl_app]; exact List.mem_append_right _ hc))
  rw [run_fl h, ← fl_app] at hr
  have happ := aRun_app k ts
  have hlen : (fl w (aRun k ts).1).length ≤ 690 := by
    have h1 := hW.len
    rw [fl_app, ← happ, fl_app, List.length_append, List.length_append] at h1
    omega
  have hbad : ((fl w (aRun k ts).1).length < 1 ∨ 6 < (fl w (aRun k ts).1).length) → G_word_at E [.str (T (fl w (pre ++ ts))), .int (fl w pre).length, .str (alpha k)] = Nt E := fun hb => by
    show resOf (g_word_at E (startD 4 [.str (T (fl w (pre ++ ts))), .int (fl w pre).length, .str (alpha k)])) = _
    generalize T (fl w (pre ++ ts)) = W at hr
    generalize fl w (aRun k ts).1 = run at hr hb hlen
    have hl2 : lenD [.str (T run)] = mok (.int run.length) := lenD_T (by omega)
    unfold g_word_at
    rw [dSeq_nx (e := [some (.fz (.str W)), some (.fz (.int (fl w pre).length)), some (.fz (.str (alpha k))), some (.fz (.str (T run)))]) (by show eS (dRes (G_run_of ([.str W, .int (fl w pre).length, .str (alpha k)] ++ []))) _ _ = _; rw [List.append_nil, hr]; rfl) (dSeq_xc (e := [some (.fz (.str W)), some (.fz (.int (fl w pre).length)), some (.fz (.str (alpha k))), some (.fz (.str (T run)))]) (dIfS_t ?_ rfl))]
    · rfl
    · by_cases h1 : run.length < 1
      · have e1 : decide ((run.length : Int) < 1) = true := decide_eq_true (by omega)
        simp only [dOr, dTst, d2, dCall, dCons, dNil, dVarS, dC, List.getElem?_cons_zero, List.getElem?_cons_succ, mbind_mok, hl2, ltD_int, gtD_int, asB_bool, e1, if_true]
      · have e1 : decide ((run.length : Int) < 1) = false := decide_eq_false (by omega)
        have e2 : decide ((6 : Int) < run.length) = true := decide_eq_true (by omega)
        simp only [dOr, dTst, d2, dCall, dCons, dNil, dVarS, dC, List.getElem?_cons_zero, List.getElem?_cons_succ, mbind_mok, hl2, ltD_int, gtD_int, asB_bool, e1, e2, if_true, Bool.false_eq_true, if_false]
  have hgood : (1 ≤ (fl w (aRun k ts).1).length ∧ (fl w (aRun k ts).1).length ≤ 6) → G_word_at E [.str (T (fl w (pre ++ ts))), .int (fl w pre).length, .str (alpha k)] = some (.ret false (.str (T (fl w (aRun k ts).1)))) := fun hb => by
    show resOf (g_word_at E (startD 4 [.str (T (fl w (pre ++ ts))), .int (fl w pre).length, .str (alpha k)])) = _
    generalize T (fl w (pre ++ ts)) = W at hr
    generalize fl w (aRun k ts).1 = run at hr hb hlen
    have hl2 : lenD [.str (T run)] = mok (.int run.length) := lenD_T (by omega)
    unfold g_word_at
    rw [dSeq_nx (e := [some (.fz (.str W)), some (.fz (.int (fl w pre).length)), some (.fz (.str (alpha k))), some (.fz (.str (T run)))]) (by show eS (dRes (G_run_of ([.str W, .int (fl w pre).length, .str (alpha k)] ++ []))) _ _ = _; rw [List.append_nil, hr]; rfl) (dSeq_nx (e := [some (.fz (.str W)), some (.fz (.int (fl w pre).length)), some (.fz (.str (alpha k))), some (.fz (.str (T run)))]) (dIfS_f ?_ rfl) rfl)]
    · rfl
    · have e1 : decide ((run.length : Int) < 1) = false := decide_eq_false (by omega)
      have e2 : decide ((6 : Int) < run.length) = false := decide_eq_false (by omega)
      simp only [dOr, dTst, d2, dCall, dCons, dNil, dVarS, dC, List.getElem?_cons_zero, List.getElem?_cons_succ, mbind_mok, hl2, ltD_int, gtD_int, asB_bool, e1, e2, Bool.false_eq_true, if_false]
  unfold aWord
  split
  · trivial
  · rename_i he
    split at he
    · rename_i h0
      rw [h0] at hbad
      exact hbad (.inl (show 0 < 1 by decide))
    · cases he
    · cases he
    · rename_i hl0
      split at he
      · rename_i l hl
        split at he
        · cases he
        · rename_i hn
          rw [lits_fl w hl] at hbad
          exact hbad (.inr (by omega))
      · cases he
  · rename_i a r he
    split at he
    · cases he
    · rename_i h0
      cases he
      refine ⟨(aRun k ts).1, happ.symm, by rw [h0]; simp [fl, fl1, cw], h.x.2.1, h.x.2.2, ?_⟩
      have e0 : fl w (aRun k ts).1 = w.x := by rw [h0]; simp [fl, fl1]
      rw [e0] at hgood
      exact hgood h.x.2
    · rename_i h0
      cases he
      refine ⟨(aRun k ts).1, happ.symm, by rw [h0]; simp [fl, fl1, cw], h.s.2.1, h.s.2.2, ?_⟩
      have e0 : fl w (aRun k ts).1 = w.s := by rw [h0]; simp [fl, fl1]
      rw [e0] at hgood
      exact hgood h.s.2
    · rename_i h1 h2 h3
      split at he
      · rename_i l hl
        split at he
        · rename_i hn
          cases he
          have e0 := lits_fl w hl
          have hne : 1 ≤ l.length := by
            cases l with
            | nil =>
              exfalso
              cases hrun : (aRun k ts).1 with
              | nil => exact h1 hrun
              | cons t run =>
                obtain ⟨c, m, e1⟩ := fl1_ne h t
                rw [hrun, fl_cons, e1] at e0
                cases e0
            | cons c l => simp
          refine ⟨(aRun k ts).1, happ.symm, e0, hne, hn, ?_⟩
          rw [e0] at hgood
          exact hgood ⟨hne, hn⟩
        · cases he
      · cases he
end K14

namespace K14
open PySem PySem.Spec PyProof.Rows L2 DL
local macro_rules | `(tactic| walk_at "ev") => `(tactic| simp (disch := first | omega | (simp only [List.length_cons, List.length_nil, List.length_map, List.length_append, List.length_take, List.length_drop] <;> omega) | fail) only [cell_ok, pick_ok, startD, List.map_cons, List.map_nil, List.cons_append, List.nil_append, List.length_cons, List.length_nil, List.length_map, List.replicate, List.append_nil,
  ev_seq, ev_nx, ev_rt, ev_xc, ev_bk, ev_ct, ev_ss, ev_if, ev_ifT, ev_ifF, ev_stepN, lp_nx, lp_ct, lp_bk, lp_rt, lp_xc, wp_some,
  dSet, dSetO, dRet, dRetO, dRetVar, dNx, eS_ok, eS_mok, mbind_ok, mbind_mok, dTst, d2, d1, dVar, dVarS, dC, dCall, dCons, dNil, dFn, ev_ret, ev_exc, dAnd, dOr, dNot, dAndV, dOrV, dNotV, dTup, dLst, dApp, dSetIx, dAug, dYes, dIt, dItA,  wipeD, gN, gT, gCons', gNil', ev_appOk, ixN_ok, Option.bind_some,
  if_true, if_false, Bool.true_and, Bool.false_and, Bool.and_true, Bool.and_false, Bool.true_or, Bool.false_or, Bool.or_true, Bool.or_false, Bool.not_true, Bool.not_false, decide_true, decide_false, reduceIte, Bool.false_eq_true,
  Int.reduceToNat, Int.reduceAdd, Int.reduceSub, Int.reduceMul, Int.reduceMod, Int.reduceLT, Int.reduceLE, Int.reduceEq, Nat.reduceAdd, Nat.reduceSub, Nat.reduceEqDiff, Nat.reduceLT, Int.reducePow, gt_iff_lt, ge_iff_le, Int.reduceGT, Int.toNat_zero, Int.toNat_one, List.set_cons_zero, List.set_cons_succ, List.getD_cons_zero, List.getD_cons_succ, decide_eq_true_eq, decide_eq_false_iff_not,
  List.getElem?_cons_zero, List.getElem?_cons_succ, addD_int, iaddD_int, subD_int, ltD_int, leD_int, gtD_int, geD_int, eqD_int, neD_int, eqD_bool, asB_bool, lenD_list, lenD_tuple, tupleD_list, tupleD_tuple, listD_list, listD_tuple, resOf, mulD_r, mulD_l, modD_int, divD_int, powD_int, addD_list, addL_list, addD_tuple, cutD_toT, cutD_fromT, cutD_toL, cutD_fromL, cutO_toL, cutO_fromL, sortD_list, sortD_tuple, zipD_list, zipD_tuple, asLT_list, asLT_tuple, dFnO, dResO, dFnS, List.take_succ_cons, List.take_zero, List.drop_succ_cons, List.drop_zero, addD_T, iaddD_T, lenD_T, cutD_to, cutD_from, eqD_T, neD_T, isiD_str, dSl, dSome, dNo, asI_int, letter_small, letter_great, ev_andM, ev_orM, maxD_int, minD_int, absD_int, isiD_bool, getD'_ints, getD'_intsT, getD'_atC, getD'_atCT, rngD_one, rngD_two, isNotD_none, isD_none])
local macro_rules | `(tactic| walk_at "un") => `(tactic| simp (disch := first | omega | (simp only [List.length_cons, List.length_nil, List.length_map, List.length_append, List.length_take, List.length_drop] <;> omega) | fail) only [cell_ok, pick_ok, dFor, ev_forN, ev_forS, ev_lnx, ev_lct, ev_lbk, ev_lrt, ev_lxc, rngL_step, rngL_nil, range_0, range_1, range_2, range_3, range_4, range_5, startD, List.map_cons, List.map_nil, List.cons_append, List.nil_append, List.length_cons, List.length_nil, List.length_map, List.replicate, List.append_nil,
  ev_seq, ev_nx, ev_rt, ev_xc, ev_bk, ev_ct, ev_ss, ev_if, ev_ifT, ev_ifF, ev_stepN, lp_nx, lp_ct, lp_bk, lp_rt, lp_xc, wp_some,
  dSet, dSetO, dRet, dRetO, dRetVar, dNx, eS_ok, eS_mok, mbind_ok, mbind_mok, dTst, d2, d1, dVar, dVarS, dC, dCall, dCons, dNil, dFn, ev_ret, ev_exc, dAnd, dOr, dNot, dAndV, dOrV, dNotV, dTup, dLst, dApp, dSetIx, dAug, dYes, dIt, dItA,  wipeD, gN, gT, gCons', gNil', ev_appOk, ixN_ok, Option.bind_some,
  if_true, if_false, Bool.true_and, Bool.false_and, Bool.and_true, Bool.and_false, Bool.true_or, Bool.false_or, Bool.or_true, Bool.or_false, Bool.not_true, Bool.not_false, decide_true, decide_false, reduceIte, Bool.false_eq_true,
  Int.reduceToNat, Int.reduceAdd, Int.reduceSub, Int.reduceMul, Int.reduceMod, Int.reduceLT, Int.reduceLE, Int.reduceEq, Nat.reduceAdd, Nat.reduceSub, Nat.reduceEqDiff, Nat.reduceLT, Int.reducePow, gt_iff_lt, ge_iff_le, Int.reduceGT, Int.toNat_zero, Int.toNat_one, List.set_cons_zero, List.set_cons_succ, List.getD_cons_zero, List.getD_cons_succ, decide_eq_true_eq, decide_eq_false_iff_not,
  List.getElem?_cons_zero, List.getElem?_cons_succ, addD_int, iaddD_int, subD_int, ltD_int, leD_int, gtD_int, geD_int, eqD_int, neD_int, eqD_bool, asB_bool, lenD_list, lenD_tuple, tupleD_list, tupleD_tuple, listD_list, listD_tuple, resOf, mulD_r, mulD_l, modD_int, divD_int, powD_int, addD_list, addL_list, addD_tuple, cutD_toT, cutD_fromT, cutD_toL, cutD_fromL, cutO_toL, cutO_fromL, sortD_list, sortD_tuple, zipD_list, zipD_tuple, asLT_list, asLT_tuple, dFnO, dResO, dFnS, List.take_succ_cons, List.take_zero, List.drop_succ_cons, List.drop_zero, addD_T, iaddD_T, lenD_T, cutD_to, cutD_from, eqD_T, neD_T, isiD_str, dSl, dSome, dNo, asI_int, letter_small, letter_great, ev_andM, ev_orM, maxD_int, minD_int, absD_int, isiD_bool, getD'_ints, getD'_intsT, getD'_atC, getD'_atCT, rngD_one, rngD_two, isNotD_none, isD_none])
/-! ### plus, times, less -/
theorem kcn_take {qs : List KC} {i : Nat} {q : KC} (h : qs[i]? = some q) (k : D) : kcn (qs.take (i + 1)) k = kcn (qs.take i) k + kcn [q] k := by
  rw [List.take_succ, kcn_append, h]
  rfl
theorem take_out {qs : List KC} {i : Nat} {q : KC} (hn : (qs.map Prod.fst).Nodup) (h : qs[i]? = some q) : kcn (qs.take i) q.1 = 0 := by
  refine kcn_out fun hm => ?_
  obtain ⟨p, hp, e⟩ := List.mem_map.mp hm
  obtain ⟨j, hj⟩ := List.getElem?_of_mem hp
  have hji : j < i := by
    have := (List.getElem?_eq_some_iff.mp hj).1
    rw [List.length_take] at this
    omega
  rw [List.getElem?_take_of_lt hji] at hj
  obtain ⟨l1, e1⟩ := List.getElem?_eq_some_iff.mp h
  obtain ⟨l2, e2⟩ := List.getElem?_eq_some_iff.mp hj
  have := (List.getElem_inj (xs := qs.map Prod.fst) (i := j) (j := i) (h₀ := by simpa using l2) (h₁ := by simpa using l1) hn).mp (by simp only [List.getElem_map, e1, e2, e])
  omega
theorem dk_length (ps : List KC) : (dk ps).length = ps.length := by unfold dk; rw [List.length_map]
section
variable {G : D → Prop} (hG : Keys G)
include hG
theorem get_dk {acc : List KC} (ha : Bag G acc) {k : D} (hk : G k) {fd : DEnv → M D} {fs : DEnv → M (List D)} {env : DEnv} (h1 : fd env = mok (.dict (dk acc))) (h2 : fs env = mok [k, .int 0]) : dGet fd fs env = mok (.int (kcn acc k)) := by
  unfold dGet
  rw [h1, mbind_mok]
  simp only [h2, mbind_mok]
  exact getX_dk hG ha hk
theorem plus_raw {ps qs rs : List KC} (hp : Bag G ps) (pp : Pos ps) (hq : Bag G qs) (pq : Pos qs) (hl : ps.length + qs.length ≤ 1000000) (hr : Bag G rs) (hr1 : Pos rs) (he : ∀ k, kcn rs k = kcn ps k + kcn qs k) : G_plus [.tuple (ps.map pr), .tuple (qs.map pr)] = some (.ret false (.tuple (srt (rs.map pr)))) := by
  have key : ∃ b d, G_plus [.tuple (ps.map pr), .tuple (qs.map pr)] = some (.ret b d) ∧ b = false ∧ d = .tuple (srt (rs.map pr)) := by
    refine run_wp ?_
    unfold g_plus
    have e1 := dictD_dk hG hp
    repeat (first | walk_at "ev" | simp only [e1])
    refine wp_for (ds := qs.map pr) (by walk_at "ev") (fun i e => ∃ acc a b, e = [some (.fz (.tuple (ps.map pr))), some (.fz (.tuple (qs.map pr))), some (.ow (.dict (dk acc))), a, b] ∧ Bag G acc ∧ Pos acc ∧ acc.length ≤ ps.length + i ∧ ∀ k, kcn acc k = kcn ps k + kcn (qs.take i) k) ⟨ps, _, _, rfl, hp, pp, by omega, fun k => by rw [List.take_zero, kcn_nil]; omega⟩ ?_ ?_
    · rintro i d e hi ⟨acc, a, b, rfl, ha, pa, hla, hc⟩
      rw [List.getElem?_map] at hi
      obtain ⟨q, hqi, rfl⟩ := Option.map_eq_some_iff.mp hi
      have hqm := List.mem_of_getElem? hqi
      have hgq := hq.good q hqm
      have hil : i < qs.length := (List.getElem?_eq_some_iff.mp hqi).1
      have hst : ∀ g (E : DEnv), stepO (gT 2 (gCons' (gN 3) (gCons' (gN 4) gNil'))) g (pr q) E = g ((E.set 3 (some (.fz q.1))).set 4 (some (.fz (.int q.2)))) := fun _ _ => rfl
      rw [hst]
      simp only [List.set_cons_zero, List.set_cons_succ]
      obtain ⟨acc2, e2, h2, h3, h4, h5, h6, _⟩ := put_dk hG ha hgq (kcn acc q.1 + q.2)
      rw [ev_put (kvs := dk acc) (k := q.1) (d := .int (kcn acc q.1 + q.2)) rfl ?_ rfl (hG.key _ hgq) (by rw [dk_length]; omega), e2]
      · rw [wp_some]
        simp only [LP, List.set_cons_zero, List.set_cons_succ]
        refine ⟨acc2, _, _, rfl, h2, fun p hpp => ?_, by omega, fun k => ?_⟩
        · rcases h6 p hpp with h | rfl
          · exact pa p h
          · have h7 := pq q hqm
            have h8 : 0 ≤ kcn acc q.1 := by
              by_cases z : kcn acc q.1 = 0
              · omega
              · obtain ⟨c, hcm⟩ := kcn_in z
                have := kcn_mem ha.nd hcm
                have := pa _ hcm
                simp only at *
                omega
            show 1 ≤ kcn acc q.1 + q.2
            omega
        · rw [kcn_take hqi]
          by_cases ek : k = q.1
          · subst ek
            rw [h5, hc, kcn_cons, if_pos rfl, kcn_nil]
            omega
          · rw [h4 k ek, hc, kcn_cons, if_neg (fun z => ek z.symm), kcn_nil]
            omega
      · show mbind (dGet _ _ _) _ = _
        rw [get_dk hG ha hgq rfl rfl]
        rfl
    · rintro e ⟨acc, a, b, rfl, ha, pa, hla, hc⟩
      have e3 := sortItems_dk hG ha.good
      repeat (first | walk_at "ev" | simp only [e3])
      refine ⟨_, _, rfl, rfl, ?_⟩
      rw [srtA_perm (prs_alike hG ha.good) ((bag_ext ha pa hr hr1 fun k => ?_).map pr)]
      rw [hc, he, List.length_map, List.take_length]
  obtain ⟨b, d, h, rfl, rfl⟩ := key
  exact h
theorem times_raw {ps : List KC} (n : Int) (hn : 1 ≤ n) (hl : ps.length ≤ 1000000) (hsz : n < 18446744073709551616) : G_times [.int n, .tuple (ps.map pr)] = some (.ret false (.tuple ((ps.map fun p => (p.1, n * p.2)).map pr))) := by
  have key : ∃ b d, G_times [.int n, .tuple (ps.map pr)] = some (.ret b d) ∧ b = false ∧ d = .tuple ((ps.map fun p => (p.1, n * p.2)).map pr) := by
    refine run_wp ?_
    unfold g_times
    have e0 : decide (n = 0) = false := decide_eq_false (by omega)
    repeat (first | walk_at "ev" | simp only [e0])
    have hlc : dLc [2, 3] (gT 2 (gCons' (gN 2) (gCons' (gN 3) gNil'))) (dIt asLT (dVar 1)) dYes (dTup (dCons (dVar 2) (dCons (d2 mulD (dVarS 0) (dVarS 3)) dNil))) [some (.fz (.int n)), some (.fz (.tuple (ps.map pr))), none, none] = mok (.list (ps.map (pr ∘ fun p => (p.1, n * p.2)))) := by
      refine dLc_all (ei := pr) (pr ∘ fun p => (p.1, n * p.2)) (by walk_at "ev") (by omega) fun p hp => ⟨_, rfl, rfl, ?_⟩
      walk_at "ev"
      rfl
    rw [hlc]
    walk_at "ev"
    exact ⟨_, _, rfl, rfl, by rw [List.map_map]⟩
  obtain ⟨b, d, h, rfl, rfl⟩ := key
  exact h
end
end K14

namespace K14
open PySem PySem.Spec PyProof.Rows L2 DL
local macro_rules | `(tactic| walk_at "ev") => `(tactic| simp (disch := first | omega | (simp only [List.length_cons, List.length_nil, List.length_map, List.length_append, List.length_take, List.length_drop] <;> omega) | fail) only [cell_ok, pick_ok, startD, List.map_cons, List.map_nil, List.cons_append, List.nil_append, List.length_cons, List.length_nil, List.length_map, List.replicate, List.append_nil,
  ev_seq, ev_nx, ev_rt, ev_xc, ev_bk, ev_ct, ev_ss, ev_if, ev_ifT, ev_ifF, ev_stepN, lp_nx, lp_ct, lp_bk, lp_rt, lp_xc, wp_some,
  dSet, dSetO, dRet, dRetO, dRetVar, dNx, eS_ok, eS_mok, mbind_ok, mbind_mok, dTst, d2, d1, dVar, dVarS, dC, dCall, dCons, dNil, dFn, ev_ret, ev_exc, dAnd, dOr, dNot, dAndV, dOrV, dNotV, dTup, dLst, dApp, dSetIx, dAug, dYes, dIt, dItA,  wipeD, gN, gT, gCons', gNil', ev_appOk, ixN_ok, Option.bind_some,
  if_true, if_false, Bool.true_and, Bool.false_and, Bool.and_true, Bool.and_false, Bool.true_or, Bool.false_or, Bool.or_true, Bool.or_false, Bool.not_true, Bool.not_false, decide_true, decide_false, reduceIte, Bool.false_eq_true,
  Int.reduceToNat, Int.reduceAdd, Int.reduceSub, Int.reduceMul, Int.reduceMod, Int.reduceLT, Int.reduceLE, Int.reduceEq, Nat.reduceAdd, Nat.reduceSub, Nat.reduceEqDiff, Nat.reduceLT, Int.reducePow, gt_iff_lt, ge_iff_le, Int.reduceGT, Int.toNat_zero, Int.toNat_one, List.set_cons_zero, List.set_cons_succ, List.getD_cons_zero, List.getD_cons_succ, decide_eq_true_eq, decide_eq_false_iff_not,
  List.getElem?_cons_zero, List.getElem?_cons_succ, addD_int, iaddD_int, subD_int, ltD_int, leD_int, gtD_int, geD_int, eqD_int, neD_int, eqD_bool, asB_bool, lenD_list, lenD_tuple, tupleD_list, tupleD_tuple, listD_list, listD_tuple, resOf, mulD_r, mulD_l, modD_int, divD_int, powD_int, addD_list, addL_list, addD_tuple, cutD_toT, cutD_fromT, cutD_toL, cutD_fromL, cutO_toL, cutO_fromL, sortD_list, sortD_tuple, zipD_list, zipD_tuple, asLT_list, asLT_tuple, dFnO, dResO, dFnS, List.take_succ_cons, List.take_zero, List.drop_succ_cons, List.drop_zero, addD_T, iaddD_T, lenD_T, cutD_to, cutD_from, eqD_T, neD_T, isiD_str, dSl, dSome, dNo, asI_int, letter_small, letter_great, ev_andM, ev_orM, maxD_int, minD_int, absD_int, isiD_bool, getD'_ints, getD'_intsT, getD'_atC, getD'_atCT, rngD_one, rngD_two, isNotD_none, isD_none])
local macro_rules | `(tactic| walk_at "un") => `(tactic| simp (disch := first | omega | (simp only [List.length_cons, List.length_nil, List.length_map, List.length_append, List.length_take, List.length_drop] <;> omega) | fail) only [cell_ok, pick_ok, dFor, ev_forN, ev_forS, ev_lnx, ev_lct, ev_lbk, ev_lrt, ev_lxc, rngL_step, rngL_nil, range_0, range_1, range_2, range_3, range_4, range_5, startD, List.map_cons, List.map_nil, List.cons_append, List.nil_append, List.length_cons, List.length_nil, List.length_map, List.replicate, List.append_nil,
  ev_seq, ev_nx, ev_rt, ev_xc, ev_bk, ev_ct, ev_ss, ev_if, ev_ifT, ev_ifF, ev_stepN, lp_nx, lp_ct, lp_bk, lp_rt, lp_xc, wp_some,
  dSet, dSetO, dRet, dRetO, dRetVar, dNx, eS_ok, eS_mok, mbind_ok, mbind_mok, dTst, d2, d1, dVar, dVarS, dC, dCall, dCons, dNil, dFn, ev_ret, ev_exc, dAnd, dOr, dNot, dAndV, dOrV, dNotV, dTup, dLst, dApp, dSetIx, dAug, dYes, dIt, dItA,  wipeD, gN, gT, gCons', gNil', ev_appOk, ixN_ok, Option.bind_some,
  if_true, if_false, Bool.true_and, Bool.false_and, Bool.and_true, Bool.and_false, Bool.true_or, Bool.false_or, Bool.or_true, Bool.or_false, Bool.not_true, Bool.not_false, decide_true, decide_false, reduceIte, Bool.false_eq_true,
  Int.reduceToNat, Int.reduceAdd, Int.reduceSub, Int.reduceMul, Int.reduceMod, Int.reduceLT, Int.reduceLE, Int.reduceEq, Nat.reduceAdd, Nat.reduceSub, Nat.reduceEqDiff, Nat.reduceLT, Int.reducePow, gt_iff_lt, ge_iff_le, Int.reduceGT, Int.toNat_zero, Int.toNat_one, List.set_cons_zero, List.set_cons_succ, List.getD_cons_zero, List.getD_cons_succ, decide_eq_true_eq, decide_eq_false_iff_not,
  List.getElem?_cons_zero, List.getElem?_cons_succ, addD_int, iaddD_int, subD_int, ltD_int, leD_int, gtD_int, geD_int, eqD_int, neD_int, eqD_bool, asB_bool, lenD_list, lenD_tuple, tupleD_list, tupleD_tuple, listD_list, listD_tuple, resOf, mulD_r, mulD_l, modD_int, divD_int, powD_int, addD_list, addL_list, addD_tuple, cutD_toT, cutD_fromT, cutD_toL, cutD_fromL, cutO_toL, cutO_fromL, sortD_list, sortD_tuple, zipD_list, zipD_tuple, asLT_list, asLT_tuple, dFnO, dResO, dFnS, List.take_succ_cons, List.take_zero, List.drop_succ_cons, List.drop_zero, addD_T, iaddD_T, lenD_T, cutD_to, cutD_from, eqD_T, neD_T, isiD_str, dSl, dSome, dNo, asI_int, letter_small, letter_great, ev_andM, ev_orM, maxD_int, minD_int, absD_int, isiD_bool, getD'_ints, getD'_intsT, getD'_atC, getD'_atCT, rngD_one, rngD_two, isNotD_none, isD_none])
/-! ### what is read is what the program reads -/
def Mt (w : Wds) (E : Errs) (g : Option Res) (pre ts : List Tk) : Option AR → Prop
  | none => True
  | some .er => g = Nt E
  | some (.ok f r) => ∃ mid, ts = mid ++ r ∧ g = some (.ret false (.tuple [conc w f, .int (fl w (pre ++ mid)).length]))
def Okf (w : Wds) (E : Errs) (G : List D → Option Res) (a : List Tk → Option AR) : Prop := ∀ pre ts, Tx w (pre ++ ts) → Mt w E (G [.str (T (fl w (pre ++ ts))), .int (fl w pre).length]) pre ts (a ts)
theorem len_app (w : Wds) (a b : List Tk) : ((fl w (a ++ b)).length : Int) = (fl w a).length + (fl w b).length := by
  rw [fl_app, List.length_append]
  omega
theorem slice_ok {w : Wds} {pre ts : List Tk} (hW : Tx w (pre ++ ts)) {env : DEnv} (k : Nat) (h0 : env[0]? = some (some (.fz (.str (T (fl w (pre ++ ts))))))) (h1 : env[1]? = some (some (.fz (.int (fl w pre).length)))) :
    dSl cutD (dVarS 0) (dSome (dVar 1)) (dSome (d2 addD (dVarS 1) (dC (.int (k : Nat))))) env = mok (.str (T ((fl w ts).take k))) := by
  have hl := hW.len
  have hc := cut_at (A := fl w pre) (B := fl w ts) (at_ := (fl w pre).length) k (by rw [← fl_app]; omega) rfl
  rw [← fl_app] at hc
  simp only [dSl, dSome, d2, dC, dVar, dVarS, h0, h1, mbind_mok, addD_int, asI_int]
  exact hc
theorem test_ok {w : Wds} {pre ts : List Tk} (hW : Tx w (pre ++ ts)) {env : DEnv} (L : List Nat) (h0 : env[0]? = some (some (.fz (.str (T (fl w (pre ++ ts))))))) (h1 : env[1]? = some (some (.fz (.int (fl w pre).length)))) :
    dTst (d2 eqD (dSl cutD (dVarS 0) (dSome (dVar 1)) (dSome (d2 addD (dVarS 1) (dC (.int (L.length : Nat)))))) (dC (.str (T L)))) env = mok (decide ((fl w ts).take L.length = L)) := by
  unfold dTst d2
  have hs := slice_ok hW L.length h0 h1
  unfold d2 at hs
  rw [hs, mbind_mok]
  show mbind (mbind (mok (PyData.str (T L))) _) _ = _
  rw [mbind_mok, eqD_T]
  rfl
theorem test_yes {w : Wds} (h : w.Ok) {pre r : List Tk} (L : List Nat) (hk : ∀ k ∈ L, kind k = 3) (hW : Tx w (pre ++ (L.map Tk.c ++ r))) {env : DEnv} (h0 : env[0]? = some (some (.fz (.str (T (fl w (pre ++ (L.map Tk.c ++ r)))))))) (h1 : env[1]? = some (some (.fz (.int (fl w pre).length)))) :
    dTst (d2 eqD (dSl cutD (dVarS 0) (dSome (dVar 1)) (dSome (d2 addD (dVarS 1) (dC (.int (L.length : Nat)))))) (dC (.str (T L)))) env = mok true := by
  rw [test_ok hW L h0 h1, decide_eq_true ((peek h L _ hk).mpr ⟨r, rfl⟩)]
theorem test_no {w : Wds} (h : w.Ok) {pre ts : List Tk} (L : List Nat) (hk : ∀ k ∈ L, kind k = 3) (hn : ∀ r, ts ≠ L.map Tk.c ++ r) (hW : Tx w (pre ++ ts)) {env : DEnv} (h0 : env[0]? = some (some (.fz (.str (T (fl w (pre ++ ts))))))) (h1 : env[1]? = some (some (.fz (.int (fl w pre).length)))) :
    dTst (d2 eqD (dSl cutD (dVarS 0) (dSome (dVar 1)) (dSome (d2 addD (dVarS 1) (dC (.int (L.length : Nat)))))) (dC (.str (T L)))) env = mok false := by
  rw [test_ok hW L h0 h1, decide_eq_false fun z => by obtain ⟨r, e⟩ := (peek h L _ hk).mp z; exact hn r e]
theorem aClosed_none {ts : List Tk} (h : aClosed ts = none) : ∀ r, ts ≠ ([41] : List Nat).map Tk.c ++ r := fun r e => by
  subst e
  cases h
theorem aClosed_some {ts r : List Tk} (h : aClosed ts = some r) : ts = .c 41 :: r := by
  unfold aClosed at h
  split at h
  · cases h; rfl
  · cases h
theorem closed_ok {w : Wds} (h : w.Ok) (E : Errs) (pre ts : List Tk) (hW : Tx w (pre ++ ts)) : G_closed E [.str (T (fl w (pre ++ ts))), .int (fl w pre).length] = match aClosed ts with
    | some _ => some (.ret false (.int (fl w (pre ++ [.c 41])).length))
    | none => Nt E := by
  show resOf (g_closed E (startD 2 [.str (T (fl w (pre ++ ts))), .int (fl w pre).length])) = _
  have hne : ∀ b : Bool, dTst (d2 eqD (dSl cutD (dVarS 0) (dSome (dVar 1)) (dSome (d2 addD (dVarS 1) (dC (.int 1))))) (dC (.str (T [41])))) (startD 2 [.str (T (fl w (pre ++ ts))), .int (fl w pre).length]) = mok b → dTst (d2 neD (dSl cutD (dVarS 0) (dSome (dVar 1)) (dSome (d2 addD (dVarS 1) (dC (.int 1))))) (dC (.str (Str.ofString ")")))) (startD 2 [.str (T (fl w (pre ++ ts))), .int (fl w pre).length]) = mok (!b) := by
    intro b hb
    have hs := slice_ok hW (env := startD 2 [.str (T (fl w (pre ++ ts))), .int (fl w pre).length]) 1 rfl rfl
    unfold dTst d2 at hb ⊢
    unfold d2 at hs
    have hs : dSl cutD (dVarS 0) (dSome (dVar 1)) (dSome fun env => mbind (dVarS 1 env) fun x => mbind (dC (PyData.int 1) env) fun y => addD x y) (startD 2 [.str (T (fl w (pre ++ ts))), .int (fl w pre).length]) = _ := hs
    rw [hs] at hb ⊢
    simp only [mbind_mok, dC] at hb ⊢
    rw [eqD_T] at hb
    rw [show Str.ofString ")" = T [41] from rfl, neD_T]
    have : decide ((fl w ts).take 1 = [41]) = b := by
      injection hb with hb
      injection hb with hb
    rw [mbind_mok, ← this]
    simp only [asB_bool]
  cases hc : aClosed ts with
  | some r =>
    have e := aClosed_some hc
    subst e
    have ht := hne true (test_yes h (r := r) [41] (by decide) hW rfl rfl)
    unfold g_closed
    rw [dSeq_nx (e := startD 2 [.str (T (fl w (pre ++ Tk.c 41 :: r))), .int (fl w pre).length]) (dIfS_f ht rfl) rfl]
    simp only [len_app]
    rfl
  | none =>
    have ht := hne false (test_no h [41] (by decide) (aClosed_none hc) hW rfl rfl)
    unfold g_closed
    rw [dSeq_xc (dIfS_t ht rfl)]
    rfl
theorem okf_at {w : Wds} {E : Errs} {G : List D → Option Res} {a : List Tk → Option AR} (h : Okf w E G a) {W pre ts : List Tk} (hW : Tx w W) (e : W = pre ++ ts) {i : Int} (hi : i = (fl w pre).length) : Mt w E (G [.str (T (fl w W)), .int i]) pre ts (a ts) := by
  subst e hi
  exact h pre ts hW
def wTest : DEnv → M Bool := dAnd (dTst (d2 ltD (dCall lenD (dCons (dVarS 3) dNil)) (dC (.int 3)))) (dTst (d2 eqD (dSl cutD (dVarS 0) (dSome (dVar 1)) (dSome (d2 addD (dVarS 1) (dC (.int 2))))) (dC (.str ", "))))
def wStep (RS : List D → Option Res) : DEnv → Option Out := dSeq (dAsg (gT 2 (gCons' (gN 4) (gCons' (gN 1) gNil'))) (dFn (fun ds => RS (ds ++ [])) (dCons (dVar 0) (dCons (d2 addD (dVarS 1) (dC (.int 2))) dNil)))) (dApp 3 (dVar 4))
def wEnd (E : Errs) : DEnv → Option Out := dSet 1 (dFn (fun ds => (G_closed E) (ds ++ [])) (dCons (dVar 0) (dCons (dVar 1) dNil)))
section
variable {w : Wds} (h : w.Ok) {E : Errs}
include h
theorem end_ok {W pre r : List Tk} (hW : Tx w W) (e : W = pre ++ r) (x2 x3 x4 : Option Sl) : wEnd E [some (.fz (.str (T (fl w W)))), some (.fz (.int (fl w pre).length)), x2, x3, x4] = match aClosed r with
    | some _ => some (.nx [some (.fz (.str (T (fl w W)))), some (.fz (.int (fl w (pre ++ [.c 41])).length)), x2, x3, x4])
    | none => some (.xc (.ref (E.c "NoText")) [some (.fz (.str (T (fl w W)))), some (.fz (.int (fl w pre).length)), x2, x3, x4]) := by
  subst e
  have hc := closed_ok h E pre r hW
  show eS (dRes (G_closed E ([.str (T (fl w (pre ++ r))), .int (fl w pre).length] ++ []))) _ _ = _
  rw [List.append_nil, hc]
  cases aClosed r <;> rfl
/-- the end of the parts -/
theorem parts_end {W pre r : List Tk} (hW : Tx w W) (e : W = pre ++ r) {a : AN} {ps : List AF} (x2 x4 : Option Sl) {RS : List D → Option Res} {k : Nat} (ht : wTest [some (.fz (.str (T (fl w W)))), some (.fz (.int (fl w pre).length)), x2, some (.ow (.list (concs w ps))), x4] = mok false) :
    match (match aClosed r with | some r' => some (AR.ok (.th a ps) r') | none => some .er) with
    | none => True
    | some .er => ∃ e, dSeq (whileD wTest (wStep RS) (k + 1)) (wEnd E) [some (.fz (.str (T (fl w W)))), some (.fz (.int (fl w pre).length)), x2, some (.ow (.list (concs w ps))), x4] = some (.xc (.ref (E.c "NoText")) e)
    | some (.ok f r') => ∃ qs mid x4', f = .th a qs ∧ r = mid ++ r' ∧ dSeq (whileD wTest (wStep RS) (k + 1)) (wEnd E) [some (.fz (.str (T (fl w W)))), some (.fz (.int (fl w pre).length)), x2, some (.ow (.list (concs w ps))), x4] = some (.nx [some (.fz (.str (T (fl w W)))), some (.fz (.int (fl w (pre ++ mid)).length)), x2, some (.ow (.list (concs w qs))), x4']) := by
  have he := end_ok h (E := E) hW e x2 (some (.ow (.list (concs w ps)))) x4
  have hd := dSeq_nx (h := wEnd E) (whileD_done (g := wStep RS) (n := k) ht) he
  rw [hd]
  cases hc : aClosed r with
  | none => exact ⟨_, rfl⟩
  | some r' => exact ⟨ps, [.c 41], x4, rfl, aClosed_some hc, rfl⟩
theorem wTest_len {env : DEnv} {ds : List D} (h3 : env[3]? = some (some (.ow (.list ds)))) (hl : ds.length ≤ 3) : wTest env = if ds.length < 3 then dTst (d2 eqD (dSl cutD (dVarS 0) (dSome (dVar 1)) (dSome (d2 addD (dVarS 1) (dC (.int 2))))) (dC (.str ", "))) env else mok false := by
  unfold wTest dAnd
  have e : dTst (d2 ltD (dCall lenD (dCons (dVarS 3) dNil)) (dC (.int 3))) env = mok (decide ((ds.length : Int) < 3)) := by
    simp only [dTst, d2, dCall, dCons, dNil, dVarS, h3, mbind_mok, lenD_list, dC, ltD_int, asB_bool]
  rw [e, mbind_mok]
  by_cases hd : ds.length < 3
  · rw [if_pos hd, decide_eq_true (by omega), if_pos rfl]
  · rw [if_neg hd, decide_eq_false (by omega), if_neg (by simp)]
theorem parts_ok {S : List Tk → Option AR} {RS : List D → Option Res} (hS : Okf w E RS S) {W : List Tk} (hW : Tx w W) {a : AN} (x2 : Option Sl) : ∀ (m : Nat) (ps : List AF) (r pre : List Tk) (x4 : Option Sl) (k : Nat), ps.length + m = 3 → m ≤ k → W = pre ++ r →
    match aParts S m a ps r with
    | none => True
    | some .er => ∃ e, dSeq (whileD wTest (wStep RS) (k + 1)) (wEnd E) [some (.fz (.str (T (fl w W)))), some (.fz (.int (fl w pre).length)), x2, some (.ow (.list (concs w ps))), x4] = some (.xc (.ref (E.c "NoText")) e)
    | some (.ok f r') => ∃ qs mid x4', f = .th a qs ∧ r = mid ++ r' ∧ dSeq (whileD wTest (wStep RS) (k + 1)) (wEnd E) [some (.fz (.str (T (fl w W)))), some (.fz (.int (fl w pre).length)), x2, some (.ow (.list (concs w ps))), x4] = some (.nx [some (.fz (.str (T (fl w W)))), some (.fz (.int (fl w (pre ++ mid)).length)), x2, some (.ow (.list (concs w qs))), x4']) := by
  intro m
  induction m with
  | zero =>
    intro ps r pre x4 k hps hk hWe
    have ht : wTest [some (.fz (.str (T (fl w W)))), some (.fz (.int (fl w pre).length)), x2, some (.ow (.list (concs w ps))), x4] = mok false := by
      rw [wTest_len (ds := concs w ps) h rfl (by rw [concs_len]; omega), if_neg (by rw [concs_len]; omega)]
    have := parts_end h (E := E) hW hWe (a := a) x2 x4 (RS := RS) (k := k) ht
    have e0 : aParts S 0 a ps r = match aClosed r with | some r' => some (AR.ok (.th a ps) r') | none => some .er := by
      unfold aParts
      rfl
    rw [e0]
    exact this
  | succ m ih =>
    intro ps r pre x4 k hps hk hWe
    have htl : wTest [some (.fz (.str (T (fl w W)))), some (.fz (.int (fl w pre).length)), x2, some (.ow (.list (concs w ps))), x4] = dTst (d2 eqD (dSl cutD (dVarS 0) (dSome (dVar 1)) (dSome (d2 addD (dVarS 1) (dC (.int 2))))) (dC (.str ", "))) [some (.fz (.str (T (fl w W)))), some (.fz (.int (fl w pre).length)), x2, some (.ow (.list (concs w ps))), x4] := by
      rw [wTest_len (ds := concs w ps) h rfl (by rw [concs_len]; omega), if_pos (by rw [concs_len]; omega)]
    by_cases hr : ∃ r1, r = ([44, 32] : List Nat).map Tk.c ++ r1
    · obtain ⟨r1, rfl⟩ := hr
      subst hWe
      have ht := htl.trans (test_yes h (r := r1) [44, 32] (by decide) hW rfl rfl)
      have e0 : aParts S (m + 1) a ps (([44, 32] : List Nat).map Tk.c ++ r1) = match S r1 with
        | none => none
        | some .er => some .er
        | some (.ok f r2) => aParts S m a (ps ++ [f]) r2 := by
        rfl
      rw [e0]
      have hcall := okf_at hS (pre := pre ++ [.c 44, .c 32]) (ts := r1) hW (by rw [List.append_assoc]; rfl) (i := (fl w pre).length + 2) (by rw [len_app]; rfl)
      obtain ⟨k, rfl⟩ : ∃ k', k = k' + 1 := ⟨k - 1, by omega⟩
      generalize hWW : fl w (pre ++ (List.map Tk.c [44, 32] ++ r1)) = WW at *
      cases hSr : S r1 with
      | none => trivial
      | some ar =>
        cases ar with
        | er =>
          rw [hSr] at hcall
          have hcall : RS [.str (T WW), .int ((fl w pre).length + 2)] = Nt E := hcall
          have hstep : wStep RS [some (.fz (.str (T WW))), some (.fz (.int (fl w pre).length)), x2, some (.ow (.list (concs w ps))), x4] = some (.xc (.ref (E.c "NoText")) [some (.fz (.str (T WW))), some (.fz (.int (fl w pre).length)), x2, some (.ow (.list (concs w ps))), x4]) := by
            unfold wStep
            refine dSeq_xc ?_
            show eS (dRes (RS ([.str (T WW), .int ((fl w pre).length + 2)] ++ []))) _ _ = _
            rw [List.append_nil, hcall]
            rfl
          refine ⟨_, dSeq_xc (e := [some (.fz (.str (T WW))), some (.fz (.int (fl w pre).length)), x2, some (.ow (.list (concs w ps))), x4]) ?_⟩
          simp only [whileD, ht, eS_mok, if_true, hstep]
        | ok f r2 =>
          rw [hSr] at hcall
          obtain ⟨mid, hmid, hcall⟩ := hcall
          have hstep : wStep RS [some (.fz (.str (T WW))), some (.fz (.int (fl w pre).length)), x2, some (.ow (.list (concs w ps))), x4] = some (.nx [some (.fz (.str (T WW))), some (.fz (.int (fl w (pre ++ [.c 44, .c 32] ++ mid)).length)), x2, some (.ow (.list (concs w (ps ++ [f])))), some (.fz (conc w f))]) := by
            unfold wStep
            refine dSeq_nx (e := [some (.fz (.str (T WW))), some (.fz (.int (fl w (pre ++ [.c 44, .c 32] ++ mid)).length)), x2, some (.ow (.list (concs w ps))), some (.fz (conc w f))]) ?_ ?_
            · show eS (dRes (RS ([.str (T WW), .int ((fl w pre).length + 2)] ++ []))) _ _ = _
              rw [List.append_nil, hcall]
              rfl
            · show (if (concs w ps).length < sizeLine then _ else _) = _
              rw [if_pos (by rw [concs_len, sizeLine_eq]; omega), concs_app]
              rfl
          have := ih (ps ++ [f]) r2 (pre ++ [.c 44, .c 32] ++ mid) (some (.fz (conc w f))) k (by simp; omega) (by omega) (by rw [hmid]; simp)
          have hw : dSeq (whileD wTest (wStep RS) (k + 1 + 1)) (wEnd E) [some (.fz (.str (T WW))), some (.fz (.int (fl w pre).length)), x2, some (.ow (.list (concs w ps))), x4] = dSeq (whileD wTest (wStep RS) (k + 1)) (wEnd E) [some (.fz (.str (T WW))), some (.fz (.int (fl w (pre ++ [.c 44, .c 32] ++ mid)).length)), x2, some (.ow (.list (concs w (ps ++ [f])))), some (.fz (conc w f))] := by
            rw [ev_seq, ev_seq, whileD_more ht hstep]
          simp only
          cases hP : aParts S m a (ps ++ [f]) r2 with
          | none => trivial
          | some ar2 =>
            rw [hP] at this
            cases ar2 with
            | er =>
              obtain ⟨e, he⟩ := this
              exact ⟨e, hw.trans he⟩
            | ok g r' =>
              obtain ⟨qs, mid2, x4', g1, g2, g3⟩ := this
              refine ⟨qs, [.c 44, .c 32] ++ mid ++ mid2, x4', g1, ?_, ?_⟩
              · rw [hmid, g2]
                simp
              · rw [hw, g3]
                simp only [List.append_assoc]
    · have ht := htl.trans (test_no h [44, 32] (by decide) (fun r1 e => hr ⟨r1, e⟩) (hWe ▸ hW) (by rw [hWe]; rfl) rfl)
      have := parts_end h (E := E) hW hWe (a := a) x2 x4 (RS := RS) (k := k) ht
      have e0 : aParts S (m + 1) a ps r = match aClosed r with | some r' => some (AR.ok (.th a ps) r') | none => some .er := by
        unfold aParts
        split
        · exact absurd ⟨_, rfl⟩ hr
        · rfl
      rw [e0]
      exact this
end
end K14

namespace K14
open PySem PySem.Spec PyProof.Rows L2 DL
local macro_rules | `(tactic| walk_at "ev") => `(tactic| simp (disch := first | omega | (simp only [List.length_cons, List.length_nil, List.length_map, List.length_append, List.length_take, List.length_drop] <;> omega) | fail) only [cell_ok, pick_ok, startD, List.map_cons, List.map_nil, List.cons_append, List.nil_append, List.length_cons, List.length_nil, List.length_map, List.replicate, List.append_nil,
  ev_seq, ev_nx, ev_rt, ev_xc, ev_bk, ev_ct, ev_ss, ev_if, ev_ifT, ev_ifF, ev_stepN, lp_nx, lp_ct, lp_bk, lp_rt, lp_xc, wp_some,
  dSet, dSetO, dRet, dRetO, dRetVar, dNx, eS_ok, eS_mok, mbind_ok, mbind_mok, dTst, d2, d1, dVar, dVarS, dC, dCall, dCons, dNil, dFn, ev_ret, ev_exc, dAnd, dOr, dNot, dAndV, dOrV, dNotV, dTup, dLst, dApp, dSetIx, dAug, dYes, dIt, dItA,  wipeD, gN, gT, gCons', gNil', ev_appOk, ixN_ok, Option.bind_some,
  if_true, if_false, Bool.true_and, Bool.false_and, Bool.and_true, Bool.and_false, Bool.true_or, Bool.false_or, Bool.or_true, Bool.or_false, Bool.not_true, Bool.not_false, decide_true, decide_false, reduceIte, Bool.false_eq_true,
  Int.reduceToNat, Int.reduceAdd, Int.reduceSub, Int.reduceMul, Int.reduceMod, Int.reduceLT, Int.reduceLE, Int.reduceEq, Nat.reduceAdd, Nat.reduceSub, Nat.reduceEqDiff, Nat.reduceLT, Int.reducePow, gt_iff_lt, ge_iff_le, Int.reduceGT, Int.toNat_zero, Int.toNat_one, List.set_cons_zero, List.set_cons_succ, List.getD_cons_zero, List.getD_cons_succ, decide_eq_true_eq, decide_eq_false_iff_not,
  List.getElem?_cons_zero, List.getElem?_cons_succ, addD_int, iaddD_int, subD_int, ltD_int, leD_int, gtD_int, geD_int, eqD_int, neD_int, eqD_bool, asB_bool, lenD_list, lenD_tuple, tupleD_list, tupleD_tuple, listD_list, listD_tuple, resOf, mulD_r, mulD_l, modD_int, divD_int, powD_int, addD_list, addL_list, addD_tuple, cutD_toT, cutD_fromT, cutD_toL, cutD_fromL, cutO_toL, cutO_fromL, sortD_list, sortD_tuple, zipD_list, zipD_tuple, asLT_list, asLT_tuple, dFnO, dResO, dFnS, List.take_succ_cons, List.take_zero, List.drop_succ_cons, List.drop_zero, addD_T, iaddD_T, lenD_T, cutD_to, cutD_from, eqD_T, neD_T, isiD_str, dSl, dSome, dNo, asI_int, letter_small, letter_great, ev_andM, ev_orM, maxD_int, minD_int, absD_int, isiD_bool, getD'_ints, getD'_intsT, getD'_atC, getD'_atCT, rngD_one, rngD_two, isNotD_none, isD_none])
local macro_rules | `(tactic| walk_at "un") => `(tactic| simp (disch := first | omega | (simp only [List.length_cons, List.length_nil, List.length_map, List.length_append, List.length_take, List.length_drop] <;> omega) | fail) only [cell_ok, pick_ok, dFor, ev_forN, ev_forS, ev_lnx, ev_lct, ev_lbk, ev_lrt, ev_lxc, rngL_step, rngL_nil, range_0, range_1, range_2, range_3, range_4, range_5, startD, List.map_cons, List.map_nil, List.cons_append, List.nil_append, List.length_cons, List.length_nil, List.length_map, List.replicate, List.append_nil,
  ev_seq, ev_nx, ev_rt, ev_xc, ev_bk, ev_ct, ev_ss, ev_if, ev_ifT, ev_ifF, ev_stepN, lp_nx, lp_ct, lp_bk, lp_rt, lp_xc, wp_some,
  dSet, dSetO, dRet, dRetO, dRetVar, dNx, eS_ok, eS_mok, mbind_ok, mbind_mok, dTst, d2, d1, dVar, dVarS, dC, dCall, dCons, dNil, dFn, ev_ret, ev_exc, dAnd, dOr, dNot, dAndV, dOrV, dNotV, dTup, dLst, dApp, dSetIx, dAug, dYes, dIt, dItA,  wipeD, gN, gT, gCons', gNil', ev_appOk, ixN_ok, Option.bind_some,
  if_true, if_false, Bool.true_and, Bool.false_and, Bool.and_true, Bool.and_false, Bool.true_or, Bool.false_or, Bool.or_true, Bool.or_false, Bool.not_true, Bool.not_false, decide_true, decide_false, reduceIte, Bool.false_eq_true,
  Int.reduceToNat, Int.reduceAdd, Int.reduceSub, Int.reduceMul, Int.reduceMod, Int.reduceLT, Int.reduceLE, Int.reduceEq, Nat.reduceAdd, Nat.reduceSub, Nat.reduceEqDiff, Nat.reduceLT, Int.reducePow, gt_iff_lt, ge_iff_le, Int.reduceGT, Int.toNat_zero, Int.toNat_one, List.set_cons_zero, List.set_cons_succ, List.getD_cons_zero, List.getD_cons_succ, decide_eq_true_eq, decide_eq_false_iff_not,
  List.getElem?_cons_zero, List.getElem?_cons_succ, addD_int, iaddD_int, subD_int, ltD_int, leD_int, gtD_int, geD_int, eqD_int, neD_int, eqD_bool, asB_bool, lenD_list, lenD_tuple, tupleD_list, tupleD_tuple, listD_list, listD_tuple, resOf, mulD_r, mulD_l, modD_int, divD_int, powD_int, addD_list, addL_list, addD_tuple, cutD_toT, cutD_fromT, cutD_toL, cutD_fromL, cutO_toL, cutO_fromL, sortD_list, sortD_tuple, zipD_list, zipD_tuple, asLT_list, asLT_tuple, dFnO, dResO, dFnS, List.take_succ_cons, List.take_zero, List.drop_succ_cons, List.drop_zero, addD_T, iaddD_T, lenD_T, cutD_to, cutD_from, eqD_T, neD_T, isiD_str, dSl, dSome, dNo, asI_int, letter_small, letter_great, ev_andM, ev_orM, maxD_int, minD_int, absD_int, isiD_bool, getD'_ints, getD'_intsT, getD'_atC, getD'_atCT, rngD_one, rngD_two, isNotD_none, isD_none])
section
variable {w : Wds} (h : w.Ok) {E : Errs}
include h
theorem thing_ok {S : List Tk → Option AR} {RS : List D → Option Res} (hS : Okf w E RS S) (RT RB RP : List D → Option Res) : Okf w E (runD 5 (g_thing_at E RT RB RP RS)) (aThing S) := by
  intro pre ts hW
  have hw := word_ok h E 1 (by omega) pre ts hW
  cases ha : aWord 1 ts with
  | none =>
    have e0 : aThing S ts = none := by unfold aThing; rw [ha]
    rw [e0]
    trivial
  | some o =>
    rw [ha] at hw
    cases o with
    | none =>
      have e0 : aThing S ts = some .er := by unfold aThing; rw [ha]
      rw [e0]
      show resOf (g_thing_at E RT RB RP RS (startD 5 [.str (T (fl w (pre ++ ts))), .int (fl w pre).length])) = Nt E
      unfold g_thing_at
      rw [dSeq_xc (e := startD 5 [.str (T (fl w (pre ++ ts))), .int (fl w pre).length]) (by
        show eS (dRes (G_word_at E ([.str (T (fl w (pre ++ ts))), .int (fl w pre).length, .str (alpha 1)] ++ []))) _ _ = _
        rw [List.append_nil, show G_word_at E [.str (T (fl w (pre ++ ts))), .int (fl w pre).length, .str (alpha 1)] = Nt E from hw]
        rfl)]
      rfl
    | some p =>
      obtain ⟨a, r⟩ := p
      obtain ⟨mid, hts, hfl, h1, h6, hword⟩ := hw
      subst hts
      have hWe : pre ++ (mid ++ r) = (pre ++ mid) ++ r := by simp
      have hat : ((fl w pre).length : Int) + ((cw w a).length : Int) = (fl w (pre ++ mid)).length := by rw [len_app, hfl]
      have hln : lenD [.str (T (cw w a))] = mok (.int (cw w a).length) := lenD_T (by omega)
      -- up to the bracket
      have head : ∀ (k : DEnv → Option Out), dSeq (dSet 2 (dFn (fun ds => (G_word_at E) (ds ++ [])) (dCons (dVar 0) (dCons (dVar 1) (dCons (dC (.str "ABCDEFGHIJKLMNOPQRSTUVWXYZ")) dNil)))))
          (dSeq (dAug 1 iaddD (dCall lenD (dCons (dVarS 2) dNil))) (dSeq (dSetO 3 (dLst dNil)) k)) (startD 5 [.str (T (fl w (pre ++ (mid ++ r)))), .int (fl w pre).length]) = k [some (.fz (.str (T (fl w (pre ++ (mid ++ r)))))), some (.fz (.int (fl w (pre ++ mid)).length)), some (.fz (.str (T (cw w a)))), some (.ow (.list [])), none] := by
        intro k
        generalize T (fl w (pre ++ (mid ++ r))) = WW at hword
        refine dSeq_nx (e := [some (.fz (.str WW)), some (.fz (.int (fl w pre).length)), some (.fz (.str (T (cw w a)))), none, none]) ?_ (dSeq_nx (e := [some (.fz (.str WW)), some (.fz (.int (fl w (pre ++ mid)).length)), some (.fz (.str (T (cw w a)))), none, none]) ?_ (dSeq_nx (e := [some (.fz (.str WW)), some (.fz (.int (fl w (pre ++ mid)).length)), some (.fz (.str (T (cw w a)))), some (.ow (.list [])), none]) rfl rfl))
        · show eS (dRes (G_word_at E ([.str WW, .int (fl w pre).length, .str (alpha 1)] ++ []))) _ _ = _
          rw [List.append_nil, hword]
          rfl
        · simp only [dAug, dCall, dCons, dNil, dVarS, List.getElem?_cons_zero, List.getElem?_cons_succ, mbind_mok, hln, eS_mok, iaddD_int, hat]
          rfl
      show Mt w E (resOf (g_thing_at E RT RB RP RS (startD 5 [.str (T (fl w (pre ++ (mid ++ r)))), .int (fl w pre).length]))) pre (mid ++ r) _
      unfold g_thing_at
      rw [head]
      by_cases hr : ∃ r1, r = .c 40 :: r1
      · obtain ⟨r1, rfl⟩ := hr
        have ht : dTst (d2 eqD (dSl cutD (dVarS 0) (dSome (dVar 1)) (dSome (d2 addD (dVarS 1) (dC (.int 1))))) (dC (.str "("))) [some (.fz (.str (T (fl w (pre ++ (mid ++ Tk.c 40 :: r1)))))), some (.fz (.int (fl w (pre ++ mid)).length)), some (.fz (.str (T (cw w a)))), some (.ow (.list [])), none] = mok true := test_yes h (pre := pre ++ mid) (r := r1) [40] (by decide) (by rw [List.append_assoc]; exact hW) (by rw [List.append_assoc]; rfl) rfl
        have hcall := okf_at hS (pre := pre ++ mid ++ [.c 40]) (ts := r1) hW (by simp) (i := (fl w (pre ++ mid)).length + 1) (by rw [len_app w (pre ++ mid)]; rfl)
        have hpo := fun (f : AF) (r2 mid2 : List Tk) (hm : r1 = mid2 ++ r2) => parts_ok h (E := E) hS hW (a := a) (some (.fz (.str (T (cw w a))))) 2 [f] r2 (pre ++ mid ++ [.c 40] ++ mid2) (some (.fz (conc w f))) 4 rfl (by omega) (by rw [hm]; simp)
        have e0 : aThing S (mid ++ Tk.c 40 :: r1) = match S r1 with
          | none => none
          | some .er => some .er
          | some (.ok f r2) => aParts S 2 a [f] r2 := by
          unfold aThing
          rw [ha]
          rfl
        rw [e0]
        generalize hWW : T (fl w (pre ++ (mid ++ Tk.c 40 :: r1))) = WW at *
        cases hSr : S r1 with
        | none => trivial
        | some ar =>
          rw [hSr] at hcall
          cases ar with
          | er =>
            have hcall : RS [.str WW, .int ((fl w (pre ++ mid)).length + 1)] = Nt E := hcall
            have hi : dAsg (gT 2 (gCons' (gN 4) (gCons' (gN 1) gNil'))) (dFn (fun ds => RS (ds ++ [])) (dCons (dVar 0) (dCons (d2 addD (dVarS 1) (dC (.int 1))) dNil))) [some (.fz (.str WW)), some (.fz (.int (fl w (pre ++ mid)).length)), some (.fz (.str (T (cw w a)))), some (.ow (.list [])), none] = some (.xc (.ref (E.c "NoText")) [some (.fz (.str WW)), some (.fz (.int (fl w (pre ++ mid)).length)), some (.fz (.str (T (cw w a)))), some (.ow (.list [])), none]) := by
              show eS (dRes (RS ([.str WW, .int ((fl w (pre ++ mid)).length + 1)] ++ []))) _ _ = _
              rw [List.append_nil, hcall]
              rfl
            exact congrArg resOf (dSeq_xc (dIfS_t ht (dSeq_xc hi)))
          | ok f r2 =>
            obtain ⟨mid2, hm2, hcall⟩ := hcall
            have hp := hpo f r2 mid2 hm2
            have hin : ∀ (k : DEnv → Option Out), dSeq (dAsg (gT 2 (gCons' (gN 4) (gCons' (gN 1) gNil'))) (dFn (fun ds => RS (ds ++ [])) (dCons (dVar 0) (dCons (d2 addD (dVarS 1) (dC (.int 1))) dNil)))) (dSeq (dApp 3 (dVar 4)) k) [some (.fz (.str WW)), some (.fz (.int (fl w (pre ++ mid)).length)), some (.fz (.str (T (cw w a)))), some (.ow (.list [])), none] = k [some (.fz (.str WW)), some (.fz (.int (fl w (pre ++ mid ++ [.c 40] ++ mid2)).length)), some (.fz (.str (T (cw w a)))), some (.ow (.list (concs w [f]))), some (.fz (conc w f))] := fun k => by
              refine dSeq_nx (e := [some (.fz (.str WW)), some (.fz (.int (fl w (pre ++ mid ++ [.c 40] ++ mid2)).length)), some (.fz (.str (T (cw w a)))), some (.ow (.list [])), some (.fz (conc w f))]) ?_ (dSeq_nx (e := [some (.fz (.str WW)), some (.fz (.int (fl w (pre ++ mid ++ [.c 40] ++ mid2)).length)), some (.fz (.str (T (cw w a)))), some (.ow (.list (concs w [f]))), some (.fz (conc w f))]) ?_ rfl)
              · show eS (dRes (RS ([.str WW, .int ((fl w (pre ++ mid)).length + 1)] ++ []))) _ _ = _
                rw [List.append_nil, hcall]
                rfl
              · unfold dApp
                simp only [List.getElem?_cons_zero, List.getElem?_cons_succ, dVar, eS_mok, List.length_nil, List.nil_append, List.set_cons_zero, List.set_cons_succ]
                rw [if_pos (by rw [sizeLine_eq]; omega), concs, concs]
            show Mt w E _ pre _ (aParts S 2 a [f] r2)
            cases hP : aParts S 2 a [f] r2 with
            | none => trivial
            | some ar2 =>
              rw [hP] at hp
              cases ar2 with
              | er =>
                obtain ⟨e, he⟩ := hp
                exact congrArg resOf (dSeq_xc (dIfS_t ht ((hin _).trans he)))
              | ok g r' =>
                obtain ⟨qs, mid3, x4', rfl, g2, g3⟩ := hp
                refine ⟨mid ++ [.c 40] ++ mid2 ++ mid3, by rw [hm2, g2]; simp, ?_⟩
                refine (congrArg resOf (dSeq_nx (r := some (.rt false (.tuple [conc w (.th a qs), .int (fl w (pre ++ mid ++ [.c 40] ++ mid2 ++ mid3)).length]))) (dIfS_t ht ((hin _).trans g3)) ?_)).trans ?_
                · simp only [dRet, dTup, dCons, dNil, dC, dVar, dVarS, dCall, List.getElem?_cons_zero, List.getElem?_cons_succ, mbind_mok, tupleD_list, eS_mok, conc]
                · simp only [List.append_assoc, List.cons_append, List.nil_append, resOf]
      · have ht : dTst (d2 eqD (dSl cutD (dVarS 0) (dSome (dVar 1)) (dSome (d2 addD (dVarS 1) (dC (.int 1))))) (dC (.str "("))) [some (.fz (.str (T (fl w (pre ++ (mid ++ r)))))), some (.fz (.int (fl w (pre ++ mid)).length)), some (.fz (.str (T (cw w a)))), some (.ow (.list [])), none] = mok false := test_no h (pre := pre ++ mid) (ts := r) [40] (by decide) (fun r1 e => hr ⟨r1, e⟩) (by rw [List.append_assoc]; exact hW) (by rw [List.append_assoc]; rfl) rfl
        have e0 : aThing S (mid ++ r) = some (AR.ok (.th a []) r) := by
          unfold aThing
          rw [ha]
          cases r with
          | nil => rfl
          | cons t r =>
            cases t with
            | c k =>
              by_cases hk : k = 40
              · subst hk; exact absurd ⟨_, rfl⟩ hr
              · split
                · rename_i e; simp at e
                · rename_i e; simp at e
                · rename_i e; injection e with e; injection e with e; injection e with e1 e2; injection e2 with e3; injection e3 with e3; exact absurd e3 hk
                · rename_i e; injection e with e; injection e with e; injection e with e1 e2; rw [e1, e2]
            | _ => rfl
        rw [e0]
        refine ⟨mid, rfl, ?_⟩
        refine congrArg resOf (dSeq_nx (r := some (.rt false (.tuple [conc w (.th a []), .int (fl w (pre ++ mid)).length]))) (dIfS_f ht rfl) ?_)
        simp only [dRet, dTup, dCons, dNil, dC, dVar, dVarS, dCall, List.getElem?_cons_zero, List.getElem?_cons_succ, mbind_mok, tupleD_list, eS_mok, conc, concs]
theorem body_ok {S Th : List Tk → Option AR} {RS RT : List D → Option Res} (hS : Okf w E RS S) (hT : Okf w E RT Th) (RB RP : List D → Option Res) : Okf w E (runD 5 (g_body_at E RT RB RP RS)) (aBody S Th) := by
  intro pre ts hW
  have hs : dSl cutD (dVarS 0) (dSome (dVar 1)) (dSome (d2 addD (dVarS 1) (dC (.int 1)))) (startD 5 [.str (T (fl w (pre ++ ts))), .int (fl w pre).length]) = mok (.str (T ((fl w ts).take 1))) := slice_ok hW 1 rfl rfl
  have e40 : eqD (.str (T ((fl w ts).take 1))) (.str (Str.ofString "(")) = mok (.bool (decide ((fl w ts).take 1 = [40]))) := eqD_T
  show Mt w E (resOf (g_body_at E RT RB RP RS (startD 5 [.str (T (fl w (pre ++ ts))), .int (fl w pre).length]))) pre ts _
  have head : ∀ k : DEnv → Option Out, dSeq (dSet 2 (dSl cutD (dVarS 0) (dSome (dVar 1)) (dSome (d2 addD (dVarS 1) (dC (.int 1)))))) k (startD 5 [.str (T (fl w (pre ++ ts))), .int (fl w pre).length]) = k [some (.fz (.str (T (fl w (pre ++ ts))))), some (.fz (.int (fl w pre).length)), some (.fz (.str (T ((fl w ts).take 1)))), none, none] := fun k => by
    refine dSeq_nx ?_ rfl
    unfold dSet
    rw [hs]
    rfl
  unfold g_body_at
  rw [head]
  by_cases hr : ∃ r1, ts = .c 40 :: r1
  · obtain ⟨r1, rfl⟩ := hr
    have hd : decide ((fl w (Tk.c 40 :: r1)).take 1 = [40]) = true := decide_eq_true ((peek h [40] _ (by decide)).mpr ⟨r1, rfl⟩)
    rw [hd] at e40
    have hcall := okf_at hS (pre := pre ++ [.c 40]) (ts := r1) hW (by simp) (i := (fl w pre).length + 1) (by rw [len_app]; rfl)
    have hend := fun (mid r2 : List Tk) (hm : r1 = mid ++ r2) => closed_ok h E (pre ++ [.c 40] ++ mid) r2 (by rw [show pre ++ [Tk.c 40] ++ mid ++ r2 = pre ++ Tk.c 40 :: r1 by rw [hm]; simp]; exact hW)
    have hWm : ∀ (mid r2 : List Tk), r1 = mid ++ r2 → pre ++ [Tk.c 40] ++ mid ++ r2 = pre ++ Tk.c 40 :: r1 := fun mid r2 hm => by rw [hm]; simp
    have e00 : aBody S Th (Tk.c 40 :: r1) = match S r1 with
      | none => none
      | some .er => some .er
      | some (.ok f r2) => match aClosed r2 with
        | some r' => some (.ok f r')
        | none => some .er := rfl
    rw [e00]
    generalize hX : T ((fl w (Tk.c 40 :: r1)).take 1) = X at e40
    cases hSr : S r1 with
    | none => trivial
    | some ar =>
      rw [hSr] at hcall
      cases ar with
      | er =>
        have hcall : RS [.str (T (fl w (pre ++ Tk.c 40 :: r1))), .int ((fl w pre).length + 1)] = Nt E := hcall
        generalize T (fl w (pre ++ Tk.c 40 :: r1)) = WW at *
        have hi : dAsg (gT 2 (gCons' (gN 3) (gCons' (gN 1) gNil'))) (dFn (fun ds => RS (ds ++ [])) (dCons (dVar 0) (dCons (d2 addD (dVarS 1) (dC (.int 1))) dNil))) [some (.fz (.str WW)), some (.fz (.int (fl w pre).length)), some (.fz (.str X)), none, none] = some (.xc (.ref (E.c "NoText")) [some (.fz (.str WW)), some (.fz (.int (fl w pre).length)), some (.fz (.str X)), none, none]) := by
          show eS (dRes (RS ([.str WW, .int ((fl w pre).length + 1)] ++ []))) _ _ = _
          rw [List.append_nil, hcall]
          rfl
        have ht : dTst (d2 eqD (dVarS 2) (dC (.str "("))) [some (.fz (.str WW)), some (.fz (.int (fl w pre).length)), some (.fz (.str X)), none, none] = mok true := by show mbind (eqD (.str X) (.str (Str.ofString "("))) asB = _; rw [e40]; rfl
        exact congrArg resOf (dSeq_xc (dIfS_t ht (dSeq_xc hi)))
      | ok f r2 =>
        obtain ⟨mid, hm, hcall⟩ := hcall
        have hcl := hend mid r2 hm
        rw [hWm mid r2 hm] at hcl
        generalize T (fl w (pre ++ Tk.c 40 :: r1)) = WW at *
        have hin : ∀ k : DEnv → Option Out, dSeq (dAsg (gT 2 (gCons' (gN 3) (gCons' (gN 1) gNil'))) (dFn (fun ds => RS (ds ++ [])) (dCons (dVar 0) (dCons (d2 addD (dVarS 1) (dC (.int 1))) dNil)))) k [some (.fz (.str WW)), some (.fz (.int (fl w pre).length)), some (.fz (.str X)), none, none] = k [some (.fz (.str WW)), some (.fz (.int (fl w (pre ++ [.c 40] ++ mid)).length)), some (.fz (.str X)), some (.fz (conc w f)), none] := fun k => by
          refine dSeq_nx ?_ rfl
          show eS (dRes (RS ([.str WW, .int ((fl w pre).length + 1)] ++ []))) _ _ = _
          rw [List.append_nil, hcall]
          rfl
        have ht : dTst (d2 eqD (dVarS 2) (dC (.str "("))) [some (.fz (.str WW)), some (.fz (.int (fl w pre).length)), some (.fz (.str X)), none, none] = mok true := by show mbind (eqD (.str X) (.str (Str.ofString "("))) asB = _; rw [e40]; rfl
        show Mt w E _ pre _ (match aClosed r2 with
          | some r' => some (.ok f r')
          | none => some .er)
        cases hc : aClosed r2 with
        | none =>
          rw [hc] at hcl
          have hcl : G_closed E [.str WW, .int (fl w (pre ++ [.c 40] ++ mid)).length] = Nt E := hcl
          have hi : dRet (dTup (dCons (dVar 3) (dCons (dFn (fun ds => (G_closed E) (ds ++ [])) (dCons (dVar 0) (dCons (dVar 1) dNil))) dNil))) [some (.fz (.str WW)), some (.fz (.int (fl w (pre ++ [.c 40] ++ mid)).length)), some (.fz (.str X)), some (.fz (conc w f)), none] = some (.xc (.ref (E.c "NoText")) [some (.fz (.str WW)), some (.fz (.int (fl w (pre ++ [.c 40] ++ mid)).length)), some (.fz (.str X)), some (.fz (conc w f)), none]) := by
            simp only [dRet, dTup, dCons, dNil, dC, dVar, dFn, List.getElem?_cons_zero, List.getElem?_cons_succ, mbind_mok, List.append_nil, hcl, Nt, dRes]
            rfl
          exact congrArg resOf (dSeq_xc (dIfS_t ht ((hin _).trans hi)))
        | some r' =>
          rw [hc] at hcl
          have hcl : G_closed E [.str WW, .int (fl w (pre ++ [.c 40] ++ mid)).length] = some (.ret false (.int (fl w (pre ++ [.c 40] ++ mid ++ [.c 41])).length)) := hcl
          refine ⟨[.c 40] ++ mid ++ [.c 41], by rw [hm, aClosed_some hc]; simp, ?_⟩
          have hi : dRet (dTup (dCons (dVar 3) (dCons (dFn (fun ds => (G_closed E) (ds ++ [])) (dCons (dVar 0) (dCons (dVar 1) dNil))) dNil))) [some (.fz (.str WW)), some (.fz (.int (fl w (pre ++ [.c 40] ++ mid)).length)), some (.fz (.str X)), some (.fz (conc w f)), none] = some (.rt false (.tuple [conc w f, .int (fl w (pre ++ [.c 40] ++ mid ++ [.c 41])).length])) := by
            simp only [dRet, dTup, dCons, dNil, dC, dVar, dFn, List.getElem?_cons_zero, List.getElem?_cons_succ, mbind_mok, List.append_nil, hcl, dRes]
            rfl
          refine (congrArg resOf (dSeq_rt (dIfS_t ht ((hin _).trans hi)))).trans ?_
          simp only [resOf, List.append_assoc]
  · have hd : decide ((fl w ts).take 1 = [40]) = false := decide_eq_false fun z => hr (by obtain ⟨r1, e⟩ := (peek h [40] _ (by decide)).mp z; exact ⟨r1, e⟩)
    rw [hd] at e40
    have ht : dTst (d2 eqD (dVarS 2) (dC (.str "("))) [some (.fz (.str (T (fl w (pre ++ ts))))), some (.fz (.int (fl w pre).length)), some (.fz (.str (T ((fl w ts).take 1)))), none, none] = mok false := by show mbind (eqD (.str (T ((fl w ts).take 1))) (.str (Str.ofString "("))) asB = _; rw [e40]; rfl
    have hcT := hT pre ts hW
    obtain ⟨b, hb⟩ : ∃ b : Bool, b = match ts with | [] => false | t :: _ => decide (cls t = 0) := ⟨_, rfl⟩
    have ht2 : dAnd (dTst (d2 neD (dVarS 2) (dC (.str "")))) (dTst (d2 inSD (dVarS 2) (dC (.str "abcdefghijklmnopqrstuvwxyz")))) [some (.fz (.str (T (fl w (pre ++ ts))))), some (.fz (.int (fl w pre).length)), some (.fz (.str (T ((fl w ts).take 1)))), none, none] = mok b := by
      have e1 : dTst (d2 neD (dVarS 2) (dC (.str ""))) [some (.fz (.str (T (fl w (pre ++ ts))))), some (.fz (.int (fl w pre).length)), some (.fz (.str (T ((fl w ts).take 1)))), none, none] = mok (!decide ((fl w ts).take 1 = [])) := by
        show mbind (neD (.str (T ((fl w ts).take 1))) (.str (T []))) asB = _
        rw [neD_T]
        rfl
      unfold dAnd
      rw [e1, mbind_mok]
      cases ts with
      | nil => rw [hb]; rfl
      | cons t ts =>
        obtain ⟨c, l, e2⟩ := fl1_ne h t
        have e3 : (fl w (t :: ts)).take 1 = [c] := by rw [fl_cons, e2]; rfl
        have hc := kind_cls h t c (by rw [e2]; simp)
        have hca : c < 128 := fl_asc h hW c (by rw [fl_app, fl_cons, e2]; simp)
        rw [e3]
        show (if (!decide ([c] = ([] : List Nat))) = true then _ else _) = _
        rw [if_pos (by simp)]
        show mbind (inSD (.str (T [c])) (.str (alpha 0))) asB = _
        rw [in_alpha hca (by omega), hb, hc]
        rfl
    have hskip : ∀ k : DEnv → Option Out, dSeq (dIfS (dTst (d2 eqD (dVarS 2) (dC (.str "(")))) (dSeq (dAsg (gT 2 (gCons' (gN 3) (gCons' (gN 1) gNil'))) (dFn (fun ds => RS (ds ++ [])) (dCons (dVar 0) (dCons (d2 addD (dVarS 1) (dC (.int 1))) dNil)))) (dRet (dTup (dCons (dVar 3) (dCons (dFn (fun ds => (G_closed E) (ds ++ [])) (dCons (dVar 0) (dCons (dVar 1) dNil))) dNil))))) dNx) k [some (.fz (.str (T (fl w (pre ++ ts))))), some (.fz (.int (fl w pre).length)), some (.fz (.str (T ((fl w ts).take 1)))), none, none] = k [some (.fz (.str (T (fl w (pre ++ ts))))), some (.fz (.int (fl w pre).length)), some (.fz (.str (T ((fl w ts).take 1)))), none, none] := fun k => dSeq_nx (dIfS_f ht rfl) rfl
    rw [hskip]
    cases b with
    | false =>
      have e0 : aBody S Th ts = Th ts := by
        unfold aBody
        split
        · exact absurd ⟨_, rfl⟩ hr
        · rfl
        · simp only at hb
          rw [if_neg (of_decide_eq_false hb.symm)]
      rw [e0]
      have hret : ∀ res, RT [.str (T (fl w (pre ++ ts))), .int (fl w pre).length] = res → (res = Nt E → resOf (dRet (dFn (fun ds => RT (ds ++ [])) (dCons (dVar 0) (dCons (dVar 1) dNil))) [some (.fz (.str (T (fl w (pre ++ ts))))), some (.fz (.int (fl w pre).length)), some (.fz (.str (T ((fl w ts).take 1)))), none, none]) = Nt E) ∧ (∀ d, res = some (.ret false d) → resOf (dRet (dFn (fun ds => RT (ds ++ [])) (dCons (dVar 0) (dCons (dVar 1) dNil))) [some (.fz (.str (T (fl w (pre ++ ts))))), some (.fz (.int (fl w pre).length)), some (.fz (.str (T ((fl w ts).take 1)))), none, none]) = some (.ret false d)) := by
        intro res hres
        refine ⟨fun e => ?_, fun d e => ?_⟩
        · show resOf (eS (dRes (RT ([.str (T (fl w (pre ++ ts))), .int (fl w pre).length] ++ []))) _ _) = _
          rw [List.append_nil, hres, e]
          rfl
        · show resOf (eS (dRes (RT ([.str (T (fl w (pre ++ ts))), .int (fl w pre).length] ++ []))) _ _) = _
          rw [List.append_nil, hres, e]
          rfl
      rw [dSeq_nx (dIfS_f ht2 rfl) rfl]
      cases hTh : Th ts with
      | none => trivial
      | some ar =>
        rw [hTh] at hcT
        cases ar with
        | er => exact (hret _ rfl).1 hcT
        | ok f r =>
          obtain ⟨mid, hm, hg⟩ := hcT
          exact ⟨mid, hm, (hret _ rfl).2 _ hg⟩
    | true =>
      have hw := word_ok h E 0 (by omega) pre ts hW
      have e0 : aBody S Th ts = aName ts := by
        unfold aBody
        split
        · exact absurd ⟨_, rfl⟩ hr
        · cases hb
        · simp only at hb
          rw [if_pos (of_decide_eq_true hb.symm)]
      rw [e0]
      unfold aName
      cases ha : aWord 0 ts with
      | none => trivial
      | some o =>
        rw [ha] at hw
        cases o with
        | none =>
          have hw : G_word_at E [.str (T (fl w (pre ++ ts))), .int (fl w pre).length, .str (alpha 0)] = Nt E := hw
          have hi : dSet 4 (dFn (fun ds => (G_word_at E) (ds ++ [])) (dCons (dVar 0) (dCons (dVar 1) (dCons (dC (.str "abcdefghijklmnopqrstuvwxyz")) dNil)))) [some (.fz (.str (T (fl w (pre ++ ts))))), some (.fz (.int (fl w pre).length)), some (.fz (.str (T ((fl w ts).take 1)))), none, none] = some (.xc (.ref (E.c "NoText")) [some (.fz (.str (T (fl w (pre ++ ts))))), some (.fz (.int (fl w pre).length)), some (.fz (.str (T ((fl w ts).take 1)))), none, none]) := by
            show eS (dRes (G_word_at E ([.str (T (fl w (pre ++ ts))), .int (fl w pre).length, .str (alpha 0)] ++ []))) _ _ = _
            rw [List.append_nil, hw]
            rfl
          exact congrArg resOf (dSeq_xc (dIfS_t ht2 (dSeq_xc hi)))
        | some p =>
          obtain ⟨a, r⟩ := p
          obtain ⟨mid, hts, hfl, h1, h6, hword⟩ := hw
          have hln : lenD [.str (T (cw w a))] = mok (.int (cw w a).length) := lenD_T (by omega)
          have hat : ((fl w pre).length : Int) + ((cw w a).length : Int) = (fl w (pre ++ mid)).length := by rw [len_app, hfl]
          refine ⟨mid, hts, ?_⟩
          have hi : dSet 4 (dFn (fun ds => (G_word_at E) (ds ++ [])) (dCons (dVar 0) (dCons (dVar 1) (dCons (dC (.str "abcdefghijklmnopqrstuvwxyz")) dNil)))) [some (.fz (.str (T (fl w (pre ++ ts))))), some (.fz (.int (fl w pre).length)), some (.fz (.str (T ((fl w ts).take 1)))), none, none] = some (.nx [some (.fz (.str (T (fl w (pre ++ ts))))), some (.fz (.int (fl w pre).length)), some (.fz (.str (T ((fl w ts).take 1)))), none, some (.fz (.str (T (cw w a))))]) := by
            show eS (dRes (G_word_at E ([.str (T (fl w (pre ++ ts))), .int (fl w pre).length, .str (alpha 0)] ++ []))) _ _ = _
            rw [List.append_nil, hword]
            rfl
          refine congrArg resOf (dSeq_rt (o := false) (d := .tuple [conc w (.fl [(a, .k 1)]), .int (fl w (pre ++ mid)).length]) (dIfS_t ht2 (dSeq_nx hi ?_)))
          simp only [dRet, dTup, dCons, dNil, dC, dVar, dVarS, d2, dCall, List.getElem?_cons_zero, List.getElem?_cons_succ, mbind_mok, eS_mok, hln, addD_int, hat]
          rw [conc]
          rfl
end
end K14

namespace K14
open PySem PySem.Spec PyProof.Rows L2 DL
local macro_rules | `(tactic| walk_at "ev") => `(tactic| simp (disch := first | omega | (simp only [List.length_cons, List.length_nil, List.length_map, List.length_append, List.length_take, List.length_drop] <;> omega) | fail) only [cell_ok, pick_ok, startD, List.map_cons, List.map_nil, List.cons_append, List.nil_append, List.length_cons, List.length_nil, List.length_map, List.replicate, List.append_nil,
  ev_seq, ev_nx, ev_rt, ev_xc, ev_bk, ev_ct, ev_ss, ev_if, ev_ifT, ev_ifF, ev_stepN, lp_nx, lp_ct, lp_bk, lp_rt, lp_xc, wp_some,
  dSet, dSetO, dRet, dRetO, dRetVar, dNx, eS_ok, eS_mok, mbind_ok, mbind_mok, dTst, d2, d1, dVar, dVarS, dC, dCall, dCons, dNil, dFn, ev_ret, ev_exc, dAnd, dOr, dNot, dAndV, dOrV, dNotV, dTup, dLst, dApp, dSetIx, dAug, dYes, dIt, dItA,  wipeD, gN, gT, gCons', gNil', ev_appOk, ixN_ok, Option.bind_some,
  if_true, if_false, Bool.true_and, Bool.false_and, Bool.and_true, Bool.and_false, Bool.true_or, Bool.false_or, Bool.or_true, Bool.or_false, Bool.not_true, Bool.not_false, decide_true, decide_false, reduceIte, Bool.false_eq_true,
  Int.reduceToNat, Int.reduceAdd, Int.reduceSub, Int.reduceMul, Int.reduceMod, Int.reduceLT, Int.reduceLE, Int.reduceEq, Nat.reduceAdd, Nat.reduceSub, Nat.reduceEqDiff, Nat.reduceLT, Int.reducePow, gt_iff_lt, ge_iff_le, Int.reduceGT, Int.toNat_zero, Int.toNat_one, List.set_cons_zero, List.set_cons_succ, List.getD_cons_zero, List.getD_cons_succ, decide_eq_true_eq, decide_eq_false_iff_not,
  List.getElem?_cons_zero, List.getElem?_cons_succ, addD_int, iaddD_int, subD_int, ltD_int, leD_int, gtD_int, geD_int, eqD_int, neD_int, eqD_bool, asB_bool, lenD_list, lenD_tuple, tupleD_list, tupleD_tuple, listD_list, listD_tuple, resOf, mulD_r, mulD_l, modD_int, divD_int, powD_int, addD_list, addL_list, addD_tuple, cutD_toT, cutD_fromT, cutD_toL, cutD_fromL, cutO_toL, cutO_fromL, sortD_list, sortD_tuple, zipD_list, zipD_tuple, asLT_list, asLT_tuple, dFnO, dResO, dFnS, List.take_succ_cons, List.take_zero, List.drop_succ_cons, List.drop_zero, addD_T, iaddD_T, lenD_T, cutD_to, cutD_from, eqD_T, neD_T, isiD_str, dSl, dSome, dNo, asI_int, letter_small, letter_great, ev_andM, ev_orM, maxD_int, minD_int, absD_int, isiD_bool, getD'_ints, getD'_intsT, getD'_atC, getD'_atCT, rngD_one, rngD_two, isNotD_none, isD_none])
local macro_rules | `(tactic| walk_at "un") => `(tactic| simp (disch := first | omega | (simp only [List.length_cons, List.length_nil, List.length_map, List.length_append, List.length_take, List.length_drop] <;> omega) | fail) only [cell_ok, pick_ok, dFor, ev_forN, ev_forS, ev_lnx, ev_lct, ev_lbk, ev_lrt, ev_lxc, rngL_step, rngL_nil, range_0, range_1, range_2, range_3, range_4, range_5, startD, List.map_cons, List.map_nil, List.cons_append, List.nil_append, List.length_cons, List.length_nil, List.length_map, List.replicate, List.append_nil,
  ev_seq, ev_nx, ev_rt, ev_xc, ev_bk, ev_ct, ev_ss, ev_if, ev_ifT, ev_ifF, ev_stepN, lp_nx, lp_ct, lp_bk, lp_rt, lp_xc, wp_some,
  dSet, dSetO, dRet, dRetO, dRetVar, dNx, eS_ok, eS_mok, mbind_ok, mbind_mok, dTst, d2, d1, dVar, dVarS, dC, dCall, dCons, dNil, dFn, ev_ret, ev_exc, dAnd, dOr, dNot, dAndV, dOrV, dNotV, dTup, dLst, dApp, dSetIx, dAug, dYes, dIt, dItA,  wipeD, gN, gT, gCons', gNil', ev_appOk, ixN_ok, Option.bind_some,
  if_true, if_false, Bool.true_and, Bool.false_and, Bool.and_true, Bool.and_false, Bool.true_or, Bool.false_or, Bool.or_true, Bool.or_false, Bool.not_true, Bool.not_false, decide_true, decide_false, reduceIte, Bool.false_eq_true,
  Int.reduceToNat, Int.reduceAdd, Int.reduceSub, Int.reduceMul, Int.reduceMod, Int.reduceLT, Int.reduceLE, Int.reduceEq, Nat.reduceAdd, Nat.reduceSub, Nat.reduceEqDiff, Nat.reduceLT, Int.reducePow, gt_iff_lt, ge_iff_le, Int.reduceGT, Int.toNat_zero, Int.toNat_one, List.set_cons_zero, List.set_cons_succ, List.getD_cons_zero, List.getD_cons_succ, decide_eq_true_eq, decide_eq_false_iff_not,
  List.getElem?_cons_zero, List.getElem?_cons_succ, addD_int, iaddD_int, subD_int, ltD_int, leD_int, gtD_int, geD_int, eqD_int, neD_int, eqD_bool, asB_bool, lenD_list, lenD_tuple, tupleD_list, tupleD_tuple, listD_list, listD_tuple, resOf, mulD_r, mulD_l, modD_int, divD_int, powD_int, addD_list, addL_list, addD_tuple, cutD_toT, cutD_fromT, cutD_toL, cutD_fromL, cutO_toL, cutO_fromL, sortD_list, sortD_tuple, zipD_list, zipD_tuple, asLT_list, asLT_tuple, dFnO, dResO, dFnS, List.take_succ_cons, List.take_zero, List.drop_succ_cons, List.drop_zero, addD_T, iaddD_T, lenD_T, cutD_to, cutD_from, eqD_T, neD_T, isiD_str, dSl, dSome, dNo, asI_int, letter_small, letter_great, ev_andM, ev_orM, maxD_int, minD_int, absD_int, isiD_bool, getD'_ints, getD'_intsT, getD'_atC, getD'_atCT, rngD_one, rngD_two, isNotD_none, isD_none])
def aPartR (Bd : List Tk → Option AR) (ts run rest : List Tk) : Option AR := match run with
  | [] => Bd ts
  | t :: run => if t = .c 48 then (if run = [] then some (.ok (.fl []) rest) else some .er) else match figLen (t :: run) with
    | 0 => match Bd rest with
      | none => none
      | some .er => some .er
      | some (.ok f r2) => match aTimes (t :: run) f with
        | some f' => some (.ok f' r2)
        | none => none
    | 1 => some .er
    | _ => match Bd rest with
      | some .er => some .er
      | _ => none
theorem aPart_eq {Bd : List Tk → Option AR} {ts : List Tk} : aPart Bd ts = aPartR Bd ts (aRun 2 ts).1 (aRun 2 ts).2 := by
  unfold aPart aPartR
  cases (aRun 2 ts).1 <;> rfl
theorem aRun_cls (k : Nat) : ∀ (ts : List Tk), ∀ t ∈ (aRun k ts).1, cls t = k
  | [], t, ht => by cases ht
  | u :: ts, t, ht => by
    unfold aRun at ht
    split at ht
    · rename_i hk
      rcases List.mem_cons.mp ht with rfl | ht
      · exact hk
      · exact aRun_cls k ts t ht
    · cases ht
section
variable {w : Wds} (h : w.Ok) {E : Errs}
include h
theorem figLen_cases (run : List Tk) : (figLen run = 0 ∧ (fl w run).length ≤ 18) ∨ (figLen run = 1 ∧ 18 < (fl w run).length) ∨ figLen run = 2 := by
  unfold figLen
  split
  · rename_i e
    subst e
    refine .inl ⟨rfl, ?_⟩
    have : fl w [Tk.n] = w.n := by simp [fl, fl1]
    rw [this]
    exact h.n.2.2
  · split
    · rename_i l hl
      rw [lits_fl w hl]
      split
      · exact .inl ⟨rfl, by assumption⟩
      · exact .inr (.inl ⟨rfl, by omega⟩)
    · exact .inr (.inr rfl)
theorem flat_any {a : AN} (ha : 1 ≤ (cw w a).length) : Item 1 (anyW (cw w a)) := by
  unfold Item
  exact ⟨_, ha, .inl rfl⟩
omit h in
theorem times_one {k : D} {n : Int} (h1 : 1 ≤ n) (h2 : n < 1000000000000000000) : G_times [.int n, .tuple [.tuple [k, .int 1]]] = some (.ret false (.tuple [.tuple [k, .int n]])) := by
  have := times_raw (keys_item (n := 1) (by omega)) (ps := [(k, 1)]) n h1 (by simp) (by omega)
  simp only [List.map_cons, List.map_nil, Int.mul_one, pr] at this
  exact this
theorem part_ok {Bd : List Tk → Option AR} {RB : List D → Option Res} (hB : Okf w E RB Bd) (RT RP RS : List D → Option Res) : Okf w E (runD 5 (g_part_at E RT RB RP RS)) (aPart Bd) := by
  intro pre ts hW
  have hr := run_ok 2 (by omega) (fl w pre) (fl w ts) (by rw [← fl_app]; exact hW.len) (fun c hc => fl_asc h hW c (by rw [fl_app]; exact List.mem_append_right _ hc))
  rw [run_fl h, ← fl_app] at hr
  have happ := aRun_app 2 ts
  have hcls := aRun_cls 2 ts
  obtain ⟨run, hrun⟩ : ∃ run, run = (aRun 2 ts).1 := ⟨_, rfl⟩
  obtain ⟨rest, hrest⟩ : ∃ rest, rest = (aRun 2 ts).2 := ⟨_, rfl⟩
  have eP : aPart Bd ts = aPartR Bd ts run rest := by
    subst hrun hrest
    exact aPart_eq
  rw [eP]
  rw [← hrun] at hr hcls
  rw [← hrun, ← hrest] at happ
  subst happ
  clear hrun hrest eP
  have hlen : (fl w run).length ≤ 690 := by
    have h1 := hW.len
    rw [fl_app, fl_app, List.length_append, List.length_append] at h1
    omega
  show Mt w E (resOf (g_part_at E RT RB RP RS (startD 5 [.str (T (fl w (pre ++ (run ++ rest)))), .int (fl w pre).length]))) pre (run ++ rest) _
  have head : ∀ k : DEnv → Option Out, dSeq (dSet 2 (dFn (fun ds => G_run_of (ds ++ [])) (dCons (dVar 0) (dCons (dVar 1) (dCons (dC (.str "0123456789")) dNil))))) k (startD 5 [.str (T (fl w (pre ++ (run ++ rest)))), .int (fl w pre).length]) = k [some (.fz (.str (T (fl w (pre ++ (run ++ rest)))))), some (.fz (.int (fl w pre).length)), some (.fz (.str (T (fl w run)))), none, none] := fun k => by
    generalize T (fl w (pre ++ (run ++ rest))) = WW at hr
    refine dSeq_nx ?_ rfl
    show eS (dRes (G_run_of ([.str WW, .int (fl w pre).length, .str (alpha 2)] ++ []))) _ _ = _
    rw [List.append_nil, hr]
    rfl
  have hB1 := okf_at hB (pre := pre) (ts := run ++ rest) hW rfl (i := (fl w pre).length) rfl
  have hB2 := okf_at hB (pre := pre ++ run) (ts := rest) hW (by simp) (i := (fl w pre).length + (fl w run).length) (by rw [len_app])
  have hln : lenD [.str (T (fl w run))] = mok (.int (fl w run).length) := lenD_T (by omega)
  unfold g_part_at
  rw [head]
  have e1 : ∀ x3 x4, dTst (d2 eqD (dVarS 2) (dC (.str "0"))) [some (.fz (.str (T (fl w (pre ++ (run ++ rest)))))), some (.fz (.int (fl w pre).length)), some (.fz (.str (T (fl w run)))), x3, x4] = mok (decide (fl w run = [48])) := fun x3 x4 => by
    show mbind (eqD (.str (T (fl w run))) (.str (T [48]))) asB = _
    rw [eqD_T]
    rfl
  have e2 : ∀ x3 x4, dTst (d2 eqD (dVarS 2) (dC (.str ""))) [some (.fz (.str (T (fl w (pre ++ (run ++ rest)))))), some (.fz (.int (fl w pre).length)), some (.fz (.str (T (fl w run)))), x3, x4] = mok (decide (fl w run = [])) := fun x3 x4 => by
    show mbind (eqD (.str (T (fl w run))) (.str (T []))) asB = _
    rw [eqD_T]
    rfl
  generalize hWW : T (fl w (pre ++ (run ++ rest))) = WW at *
  cases run with
  | nil =>
    have a1 : decide (fl w [] = [48]) = false := rfl
    have a2 : decide (fl w [] = ([] : List Nat)) = true := rfl
    show Mt w E _ pre _ (Bd ([] ++ rest))
    have hret : ∀ res, RB [.str WW, .int (fl w pre).length] = res → (res = Nt E → resOf (dRet (dFn (fun ds => RB (ds ++ [])) (dCons (dVar 0) (dCons (dVar 1) dNil))) [some (.fz (.str WW)), some (.fz (.int (fl w pre).length)), some (.fz (.str (T (fl w [])))), none, none]) = Nt E) ∧ (∀ d, res = some (.ret false d) → resOf (dRet (dFn (fun ds => RB (ds ++ [])) (dCons (dVar 0) (dCons (dVar 1) dNil))) [some (.fz (.str WW)), some (.fz (.int (fl w pre).length)), some (.fz (.str (T (fl w [])))), none, none]) = some (.ret false d)) := by
      intro res hres
      refine ⟨fun e => ?_, fun d e => ?_⟩
      · show resOf (eS (dRes (RB ([.str WW, .int (fl w pre).length] ++ []))) _ _) = _
        rw [List.append_nil, hres, e]
        rfl
      · show resOf (eS (dRes (RB ([.str WW, .int (fl w pre).length] ++ []))) _ _) = _
        rw [List.append_nil, hres, e]
        rfl
    have hgo : ∀ (k : DEnv → Option Out) (g : DEnv → Option Out) (b : Out), dRet (dFn (fun ds => RB (ds ++ [])) (dCons (dVar 0) (dCons (dVar 1) dNil))) [some (.fz (.str WW)), some (.fz (.int (fl w pre).length)), some (.fz (.str (T (fl w [])))), none, none] = some b → (∀ e, b ≠ .nx e) → dSeq (dIfS (dTst (d2 eqD (dVarS 2) (dC (.str "0")))) g dNx) (dSeq (dIfS (dTst (d2 eqD (dVarS 2) (dC (.str "")))) (dRet (dFn (fun ds => RB (ds ++ [])) (dCons (dVar 0) (dCons (dVar 1) dNil)))) dNx) k) [some (.fz (.str WW)), some (.fz (.int (fl w pre).length)), some (.fz (.str (T (fl w [])))), none, none] = some b := by
      intro k g b hb hn
      refine dSeq_nx (dIfS_f ((e1 none none).trans (by rw [a1])) rfl) ?_
      rw [ev_seq, dIfS_t ((e2 none none).trans (by rw [a2])) hb]
      cases b with
      | nx e => exact absurd rfl (hn e)
      | rt o d => rfl
      | bk e => rfl
      | ct e => rfl
      | xc c e => rfl
    cases hBd : Bd ([] ++ rest) with
    | none => trivial
    | some ar =>
      rw [hBd] at hB1
      have hdr : dRet (dFn (fun ds => RB (ds ++ [])) (dCons (dVar 0) (dCons (dVar 1) dNil))) [some (.fz (.str WW)), some (.fz (.int (fl w pre).length)), some (.fz (.str (T (fl w [])))), none, none] = eS (dRes (RB [.str WW, .int (fl w pre).length])) [some (.fz (.str WW)), some (.fz (.int (fl w pre).length)), some (.fz (.str (T (fl w [])))), none, none] fun d => some (.rt false d) := by
        show eS (dRes (RB ([.str WW, .int (fl w pre).length] ++ []))) _ _ = _
        rw [List.append_nil]
      cases ar with
      | er =>
        have hB1 : RB [.str WW, .int (fl w pre).length] = Nt E := hB1
        rw [hB1] at hdr
        exact congrArg resOf (hgo _ _ _ hdr (by intro e; simp))
      | ok f r =>
        obtain ⟨mid, hm, hg⟩ := hB1
        rw [hg] at hdr
        exact ⟨mid, hm, congrArg resOf (hgo _ _ _ hdr (by intro e; simp))⟩
  | cons t run =>
    have hct : cls t = 2 := hcls t List.mem_cons_self
    obtain ⟨c0, l0, ec⟩ := fl1_ne h t
    have eF : fl w (t :: run) = c0 :: (l0 ++ fl w run) := by rw [fl_cons, ec]; rfl
    have a2 : decide (fl w (t :: run) = ([] : List Nat)) = false := by rw [eF]; simp
    have hget : getD' (.str (T (fl w (t :: run)))) (.int 0) = mok (.str (T [c0])) := getD'_T (by omega) (by omega) (by rw [eF]; rfl)
    have e3 : dTst (d2 eqD (d2 getD' (dVarS 2) (dC (.int 0))) (dC (.str "0"))) [some (.fz (.str WW)), some (.fz (.int (fl w pre).length)), some (.fz (.str (T (fl w (t :: run))))), none, none] = mok (decide ([c0] = [48])) := by
      show mbind (mbind (getD' (.str (T (fl w (t :: run)))) (.int 0)) fun x => mbind (mok (.str (T [48]))) fun y => eqD x y) asB = _
      rw [hget, mbind_mok, mbind_mok, eqD_T]
      rfl
    have e4 : dTst (d2 gtD (dCall lenD (dCons (dVarS 2) dNil)) (dC (.int 18))) [some (.fz (.str WW)), some (.fz (.int (fl w pre).length)), some (.fz (.str (T (fl w (t :: run))))), none, none] = mok (decide (18 < ((fl w (t :: run)).length : Int))) := by
      simp only [dTst, d2, dCall, dCons, dNil, dVarS, dC, List.getElem?_cons_zero, List.getElem?_cons_succ, mbind_mok, hln, gtD_int, asB_bool]
    by_cases ht : t = .c 48
    · subst ht
      have ec' : ([48] : List Nat) = c0 :: l0 := ec
      injection ec' with ec1 ec2
      subst ec1 ec2
      show Mt w E _ pre _ (if run = [] then some (.ok (.fl []) rest) else some .er)
      by_cases hre : run = []
      · subst hre
        rw [if_pos rfl]
        have a1 : decide (fl w [Tk.c 48] = [48]) = true := rfl
        refine ⟨[.c 48], rfl, ?_⟩
        refine (congrArg resOf (dSeq_rt (o := false) (d := .tuple [.tuple [], .int ((fl w pre).length + 1)]) (dIfS_t ((e1 none none).trans (by rw [a1])) rfl))).trans ?_
        rw [len_app]
        rfl
      · rw [if_neg hre]
        have a1 : decide (fl w (Tk.c 48 :: run) = [48]) = false := decide_eq_false fun z => by
          rw [fl_cons] at z
          have z : (48 : Nat) :: fl w run = [48] := z
          injection z with _ z
          cases run with
          | nil => exact hre rfl
          | cons u run =>
            obtain ⟨c1, l1, e1'⟩ := fl1_ne h u
            rw [fl_cons, e1'] at z
            cases z
        have hor : dOr (dTst (d2 eqD (d2 getD' (dVarS 2) (dC (.int 0))) (dC (.str "0")))) (dTst (d2 gtD (dCall lenD (dCons (dVarS 2) dNil)) (dC (.int 18)))) [some (.fz (.str WW)), some (.fz (.int (fl w pre).length)), some (.fz (.str (T (fl w (Tk.c 48 :: run))))), none, none] = mok true := by
          unfold dOr
          rw [e3, mbind_mok, decide_eq_true rfl, if_pos rfl]
        exact congrArg resOf (dSeq_nx (dIfS_f ((e1 none none).trans (by rw [a1])) rfl) (dSeq_nx (dIfS_f ((e2 none none).trans (by rw [a2])) rfl) (dSeq_xc (dIfS_t hor rfl))))
    · have hc0 : c0 ≠ 48 := by
        cases t with
        | x => cases hct
        | s => cases hct
        | n =>
          have ec : w.n = c0 :: l0 := ec
          exact h.h c0 (by rw [ec]; rfl)
        | c k =>
          have ec : [k] = c0 :: l0 := ec
          injection ec with ec1 _
          subst ec1
          exact fun z => ht (by rw [z])
      have a1 : decide (fl w (t :: run) = [48]) = false := decide_eq_false fun z => by rw [eF] at z; injection z with z _; exact hc0 z
      have hor : dOr (dTst (d2 eqD (d2 getD' (dVarS 2) (dC (.int 0))) (dC (.str "0")))) (dTst (d2 gtD (dCall lenD (dCons (dVarS 2) dNil)) (dC (.int 18)))) [some (.fz (.str WW)), some (.fz (.int (fl w pre).length)), some (.fz (.str (T (fl w (t :: run))))), none, none] = mok (decide (18 < ((fl w (t :: run)).length : Int))) := by
        unfold dOr
        rw [e3, mbind_mok, decide_eq_false (fun z => hc0 (by injection z)), if_neg (by simp), e4]
      show Mt w E _ pre _ (if t = .c 48 then _ else _)
      rw [if_neg ht]
      have big : 18 < (fl w (t :: run)).length → resOf (dSeq (dIfS (dTst (d2 eqD (dVarS 2) (dC (.str "0")))) (dRet (dTup (dCons (dTup dNil) (dCons (d2 addD (dVarS 1) (dC (.int 1))) dNil)))) dNx) (dSeq (dIfS (dTst (d2 eqD (dVarS 2) (dC (.str "")))) (dRet (dFn (fun ds => RB (ds ++ [])) (dCons (dVar 0) (dCons (dVar 1) dNil)))) dNx) (dSeq (dIfS (dOr (dTst (d2 eqD (d2 getD' (dVarS 2) (dC (.int 0))) (dC (.str "0")))) (dTst (d2 gtD (dCall lenD (dCons (dVarS 2) dNil)) (dC (.int 18))))) (dRaise (.ref (E.c "NoText"))) dNx) (dSeq (dAsg (gT 2 (gCons' (gN 3) (gCons' (gN 4) gNil'))) (dFn (fun ds => RB (ds ++ [])) (dCons (dVar 0) (dCons (d2 addD (dVarS 1) (dCall lenD (dCons (dVarS 2) dNil))) dNil)))) (dRet (dTup (dCons (dFn (fun ds => G_times (ds ++ [])) (dCons (dCall intSD (dCons (dVarS 2) dNil)) (dCons (dVar 3) dNil))) (dCons (dVar 4) dNil))))))) [some (.fz (.str WW)), some (.fz (.int (fl w pre).length)), some (.fz (.str (T (fl w (t :: run))))), none, none]) = Nt E := fun hb => by
        have hor2 := hor
        rw [decide_eq_true (show 18 < ((fl w (t :: run)).length : Int) by omega)] at hor2
        exact congrArg resOf (dSeq_nx (dIfS_f ((e1 none none).trans (by rw [a1])) rfl) (dSeq_nx (dIfS_f ((e2 none none).trans (by rw [a2])) rfl) (dSeq_xc (dIfS_t hor2 rfl))))
      have small : (fl w (t :: run)).length ≤ 18 → ∀ b, dSeq (dAsg (gT 2 (gCons' (gN 3) (gCons' (gN 4) gNil'))) (dFn (fun ds => RB (ds ++ [])) (dCons (dVar 0) (dCons (d2 addD (dVarS 1) (dCall lenD (dCons (dVarS 2) dNil))) dNil)))) (dRet (dTup (dCons (dFn (fun ds => G_times (ds ++ [])) (dCons (dCall intSD (dCons (dVarS 2) dNil)) (dCons (dVar 3) dNil))) (dCons (dVar 4) dNil)))) [some (.fz (.str WW)), some (.fz (.int (fl w pre).length)), some (.fz (.str (T (fl w (t :: run))))), none, none] = b → resOf (dSeq (dIfS (dTst (d2 eqD (dVarS 2) (dC (.str "0")))) (dRet (dTup (dCons (dTup dNil) (dCons (d2 addD (dVarS 1) (dC (.int 1))) dNil)))) dNx) (dSeq (dIfS (dTst (d2 eqD (dVarS 2) (dC (.str "")))) (dRet (dFn (fun ds => RB (ds ++ [])) (dCons (dVar 0) (dCons (dVar 1) dNil)))) dNx) (dSeq (dIfS (dOr (dTst (d2 eqD (d2 getD' (dVarS 2) (dC (.int 0))) (dC (.str "0")))) (dTst (d2 gtD (dCall lenD (dCons (dVarS 2) dNil)) (dC (.int 18))))) (dRaise (.ref (E.c "NoText"))) dNx) (dSeq (dAsg (gT 2 (gCons' (gN 3) (gCons' (gN 4) gNil'))) (dFn (fun ds => RB (ds ++ [])) (dCons (dVar 0) (dCons (d2 addD (dVarS 1) (dCall lenD (dCons (dVarS 2) dNil))) dNil)))) (dRet (dTup (dCons (dFn (fun ds => G_times (ds ++ [])) (dCons (dCall intSD (dCons (dVarS 2) dNil)) (dCons (dVar 3) dNil))) (dCons (dVar 4) dNil))))))) [some (.fz (.str WW)), some (.fz (.int (fl w pre).length)), some (.fz (.str (T (fl w (t :: run))))), none, none]) = resOf b := fun hb b hbb => by
        have hor2 := hor
        rw [decide_eq_false (show ¬ 18 < ((fl w (t :: run)).length : Int) by omega)] at hor2
        exact congrArg resOf (dSeq_nx (dIfS_f ((e1 none none).trans (by rw [a1])) rfl) (dSeq_nx (dIfS_f ((e2 none none).trans (by rw [a2])) rfl) (dSeq_nx (dIfS_f hor2 rfl) hbb)))
      have hasg : dAsg (gT 2 (gCons' (gN 3) (gCons' (gN 4) gNil'))) (dFn (fun ds => RB (ds ++ [])) (dCons (dVar 0) (dCons (d2 addD (dVarS 1) (dCall lenD (dCons (dVarS 2) dNil))) dNil))) [some (.fz (.str WW)), some (.fz (.int (fl w pre).length)), some (.fz (.str (T (fl w (t :: run))))), none, none] = eS (dRes (RB [.str WW, .int ((fl w pre).length + (fl w (t :: run)).length)])) [some (.fz (.str WW)), some (.fz (.int (fl w pre).length)), some (.fz (.str (T (fl w (t :: run))))), none, none] fun d => match gT 2 (gCons' (gN 3) (gCons' (gN 4) gNil')) d [some (.fz (.str WW)), some (.fz (.int (fl w pre).length)), some (.fz (.str (T (fl w (t :: run))))), none, none] with | some e => some (.nx e) | none => none := by
        unfold dAsg
        simp only [dFn, dCons, dNil, dVar, dVarS, d2, dCall, List.getElem?_cons_zero, List.getElem?_cons_succ, mbind_mok, hln, addD_int, List.append_nil]
        all_goals rfl
      have hbad : Bd rest = some .er → (fl w (t :: run)).length ≤ 18 → resOf (dSeq (dIfS (dTst (d2 eqD (dVarS 2) (dC (.str "0")))) (dRet (dTup (dCons (dTup dNil) (dCons (d2 addD (dVarS 1) (dC (.int 1))) dNil)))) dNx) (dSeq (dIfS (dTst (d2 eqD (dVarS 2) (dC (.str "")))) (dRet (dFn (fun ds => RB (ds ++ [])) (dCons (dVar 0) (dCons (dVar 1) dNil)))) dNx) (dSeq (dIfS (dOr (dTst (d2 eqD (d2 getD' (dVarS 2) (dC (.int 0))) (dC (.str "0")))) (dTst (d2 gtD (dCall lenD (dCons (dVarS 2) dNil)) (dC (.int 18))))) (dRaise (.ref (E.c "NoText"))) dNx) (dSeq (dAsg (gT 2 (gCons' (gN 3) (gCons' (gN 4) gNil'))) (dFn (fun ds => RB (ds ++ [])) (dCons (dVar 0) (dCons (d2 addD (dVarS 1) (dCall lenD (dCons (dVarS 2) dNil))) dNil)))) (dRet (dTup (dCons (dFn (fun ds => G_times (ds ++ [])) (dCons (dCall intSD (dCons (dVarS 2) dNil)) (dCons (dVar 3) dNil))) (dCons (dVar 4) dNil))))))) [some (.fz (.str WW)), some (.fz (.int (fl w pre).length)), some (.fz (.str (T (fl w (t :: run))))), none, none]) = Nt E := fun hb hsm => by
        rw [hb] at hB2
        have hB2 : RB [.str WW, .int ((fl w pre).length + (fl w (t :: run)).length)] = Nt E := hB2
        have : dAsg (gT 2 (gCons' (gN 3) (gCons' (gN 4) gNil'))) (dFn (fun ds => RB (ds ++ [])) (dCons (dVar 0) (dCons (d2 addD (dVarS 1) (dCall lenD (dCons (dVarS 2) dNil))) dNil))) [some (.fz (.str WW)), some (.fz (.int (fl w pre).length)), some (.fz (.str (T (fl w (t :: run))))), none, none] = some (.xc (.ref (E.c "NoText")) [some (.fz (.str WW)), some (.fz (.int (fl w pre).length)), some (.fz (.str (T (fl w (t :: run))))), none, none]) := by
          rw [hasg, hB2]
          rfl
        exact small hsm _ (dSeq_xc this)
      have hdig : ∀ c ∈ fl w (t :: run), 48 ≤ c ∧ c < 58 := fun c hc => by
        obtain ⟨u, hu, hcu⟩ := List.mem_flatMap.mp hc
        have hk := kind_cls h u c hcu
        rw [hcls u hu] at hk
        unfold kind at hk
        split at hk
        · cases hk
        · split at hk
          · cases hk
          · split at hk
            · rename_i z; exact z
            · cases hk
      -- the number
      have hval : (fl w (t :: run)).length ≤ 18 → ∀ {f f' : AF}, aTimes (t :: run) f = some f' → ∃ v : Int, intSD [.str (T (fl w (t :: run)))] = mok (.int v) ∧ G_times [.int v, conc w f] = some (.ret false (conc w f')) := by
        intro h18 f f' hti
        unfold aTimes at hti
        split at hti
        · rename_i a
          split at hti
          · rename_i hrn
            cases hti
            have eFn : fl w (t :: run) = w.n := by rw [hrn]; simp [fl, fl1]
            refine ⟨w.v, ?_, ?_⟩
            · unfold intSD
              rw [eFn]
              simp only [h.v.2.2]
              rw [if_pos (by rw [T_len]; have := h.n.2.2; omega)]
            · rw [conc, conc]
              exact times_one h.v.1 h.v.2.1
          · split at hti
            · rename_i l hl
              split at hti
              · rename_i hv
                cases hti
                have eFn := lits_fl w hl
                refine ⟨(NumText.digitsVal l : Nat), ?_, ?_⟩
                · unfold intSD
                  rw [eFn]
                  have hi : intText? (T l) = some ((NumText.digitsVal l : Nat) : Int) := SX.int_S (by
                    rw [List.all_eq_true]
                    intro c hc
                    have := hdig c (by rw [eFn]; exact hc)
                    simp only [Bool.and_eq_true, decide_eq_true_eq]
                    omega) (by rw [← eFn, eF]; simp) (by rw [← eFn]; omega)
                  simp only [hi]
                  rw [if_pos (by rw [T_len, ← eFn]; omega)]
                · rw [conc, conc]
                  exact times_one (by omega) (by omega)
              · cases hti
            · cases hti
        · cases hti
      have hf := figLen_cases h (t :: run) 
      show Mt w E _ pre _ (match figLen (t :: run) with
        | 0 => match Bd rest with
          | none => none
          | some .er => some .er
          | some (.ok f r2) => match aTimes (t :: run) f with
            | some f' => some (.ok f' r2)
            | none => none
        | 1 => some .er
        | _ => match Bd rest with
          | some .er => some .er
          | _ => none)
      rcases hf with ⟨e0, hs⟩ | ⟨e0, hs⟩ | e0
      · rw [e0]
        simp only
        cases hBd : Bd rest with
        | none => trivial
        | some ar =>
          cases ar with
          | er => exact hbad hBd hs
          | ok f r2 =>
            simp only
            cases hti : aTimes (t :: run) f with
            | none => trivial
            | some f' =>
              obtain ⟨v, hv1, hv2⟩ := hval hs hti
              rw [hBd] at hB2
              obtain ⟨mid, hm, hg⟩ := hB2
              refine ⟨(t :: run) ++ mid, by rw [hm]; simp, ?_⟩
              have ha : dAsg (gT 2 (gCons' (gN 3) (gCons' (gN 4) gNil'))) (dFn (fun ds => RB (ds ++ [])) (dCons (dVar 0) (dCons (d2 addD (dVarS 1) (dCall lenD (dCons (dVarS 2) dNil))) dNil))) [some (.fz (.str WW)), some (.fz (.int (fl w pre).length)), some (.fz (.str (T (fl w (t :: run))))), none, none] = some (.nx [some (.fz (.str WW)), some (.fz (.int (fl w pre).length)), some (.fz (.str (T (fl w (t :: run))))), some (.fz (conc w f)), some (.fz (.int (fl w (pre ++ (t :: run) ++ mid)).length))]) := by
                rw [hasg, hg]
                rfl
              have hret : dRet (dTup (dCons (dFn (fun ds => G_times (ds ++ [])) (dCons (dCall intSD (dCons (dVarS 2) dNil)) (dCons (dVar 3) dNil))) (dCons (dVar 4) dNil))) [some (.fz (.str WW)), some (.fz (.int (fl w pre).length)), some (.fz (.str (T (fl w (t :: run))))), some (.fz (conc w f)), some (.fz (.int (fl w (pre ++ (t :: run) ++ mid)).length))] = some (.rt false (.tuple [conc w f', .int (fl w (pre ++ (t :: run) ++ mid)).length])) := by
                simp only [dRet, dTup, dCons, dNil, dC, dVar, dVarS, dFn, dCall, List.getElem?_cons_zero, List.getElem?_cons_succ, mbind_mok, List.append_nil, hv1, hv2, dRes]
                rfl
              refine (small hs _ (dSeq_nx ha hret)).trans ?_
              simp only [resOf, List.append_assoc]
      · rw [e0]
        exact big hs
      · rw [e0]
        simp only
        cases hBd : Bd rest with
        | none => trivial
        | some ar =>
          cases ar with
          | ok f r2 => trivial
          | er =>
            by_cases hs : (fl w (t :: run)).length ≤ 18
            · exact hbad hBd hs
            · exact big (by omega)
end
end K14

namespace K14
open PySem PySem.Spec PyProof.Rows L2 DL
local macro_rules | `(tactic| walk_at "ev") => `(tactic| simp (disch := first | omega | (simp only [List.length_cons, List.length_nil, List.length_map, List.length_append, List.length_take, List.length_drop] <;> omega) | fail) only [ startD, List.map_cons, List.map_nil, List.cons_append, List.nil_append, List.length_cons, List.length_nil, List.length_map, List.replicate, List.append_nil,
  ev_seq, ev_nx, ev_rt, ev_xc, ev_bk, ev_ct, ev_ss, ev_if, ev_ifT, ev_ifF, ev_stepN, lp_nx, lp_ct, lp_bk, lp_rt, lp_xc, wp_some,
  dSet, dSetO, dRet, dRetO, dRetVar, dNx, eS_ok, eS_mok, mbind_ok, mbind_mok, dTst, d2, d1, dVar, dVarS, dC, dCall, dCons, dNil, dFn, ev_ret, ev_exc, dAnd, dOr, dNot, dAndV, dOrV, dNotV, dTup, dLst, dApp, dSetIx, dAug, dYes, dIt, dItA,  wipeD, gN, gT, gCons', gNil', ev_appOk, ixN_ok, Option.bind_some,
  if_true, if_false, Bool.true_and, Bool.false_and, Bool.and_true, Bool.and_false, Bool.true_or, Bool.false_or, Bool.or_true, Bool.or_false, Bool.not_true, Bool.not_false, decide_true, decide_false, reduceIte, Bool.false_eq_true,
  Int.reduceToNat, Int.reduceAdd, Int.reduceSub, Int.reduceMul, Int.reduceMod, Int.reduceLT, Int.reduceLE, Int.reduceEq, Nat.reduceAdd, Nat.reduceSub, Nat.reduceEqDiff, Nat.reduceLT, Int.reducePow, gt_iff_lt, ge_iff_le, Int.reduceGT, Int.toNat_zero, Int.toNat_one, List.set_cons_zero, List.set_cons_succ, List.getD_cons_zero, List.getD_cons_succ, decide_eq_true_eq, decide_eq_false_iff_not,
  List.getElem?_cons_zero, List.getElem?_cons_succ, addD_int, iaddD_int, subD_int, ltD_int, leD_int, gtD_int, geD_int, eqD_int, neD_int, eqD_bool, asB_bool, lenD_list, lenD_tuple, tupleD_list, tupleD_tuple, listD_list, listD_tuple, resOf, mulD_r, mulD_l, modD_int, divD_int, powD_int, addD_list, addL_list, addD_tuple, cutD_toT, cutD_fromT, cutD_toL, cutD_fromL, cutO_toL, cutO_fromL, sortD_list, sortD_tuple, zipD_list, zipD_tuple, asLT_list, asLT_tuple, dFnO, dResO, dFnS, List.take_succ_cons, List.take_zero, List.drop_succ_cons, List.drop_zero, addD_T, iaddD_T, lenD_T, cutD_to, cutD_from, eqD_T, neD_T, isiD_str, dSl, dSome, dNo, asI_int, letter_small, letter_great, ev_andM, ev_orM, maxD_int, minD_int, absD_int, isiD_bool, getD'_ints, getD'_intsT, getD'_atC, getD'_atCT, rngD_one, rngD_two, isNotD_none, isD_none])
local macro_rules | `(tactic| walk_at "un") => `(tactic| simp (disch := first | omega | (simp only [List.length_cons, List.length_nil, List.length_map, List.length_append, List.length_take, List.length_drop] <;> omega) | fail) only [ dFor, ev_forN, ev_forS, ev_lnx, ev_lct, ev_lbk, ev_lrt, ev_lxc, rngL_step, rngL_nil, range_0, range_1, range_2, range_3, range_4, range_5, startD, List.map_cons, List.map_nil, List.cons_append, List.nil_append, List.length_cons, List.length_nil, List.length_map, List.replicate, List.append_nil,
  ev_seq, ev_nx, ev_rt, ev_xc, ev_bk, ev_ct, ev_ss, ev_if, ev_ifT, ev_ifF, ev_stepN, lp_nx, lp_ct, lp_bk, lp_rt, lp_xc, wp_some,
  dSet, dSetO, dRet, dRetO, dRetVar, dNx, eS_ok, eS_mok, mbind_ok, mbind_mok, dTst, d2, d1, dVar, dVarS, dC, dCall, dCons, dNil, dFn, ev_ret, ev_exc, dAnd, dOr, dNot, dAndV, dOrV, dNotV, dTup, dLst, dApp, dSetIx, dAug, dYes, dIt, dItA,  wipeD, gN, gT, gCons', gNil', ev_appOk, ixN_ok, Option.bind_some,
  if_true, if_false, Bool.true_and, Bool.false_and, Bool.and_true, Bool.and_false, Bool.true_or, Bool.false_or, Bool.or_true, Bool.or_false, Bool.not_true, Bool.not_false, decide_true, decide_false, reduceIte, Bool.false_eq_true,
  Int.reduceToNat, Int.reduceAdd, Int.reduceSub, Int.reduceMul, Int.reduceMod, Int.reduceLT, Int.reduceLE, Int.reduceEq, Nat.reduceAdd, Nat.reduceSub, Nat.reduceEqDiff, Nat.reduceLT, Int.reducePow, gt_iff_lt, ge_iff_le, Int.reduceGT, Int.toNat_zero, Int.toNat_one, List.set_cons_zero, List.set_cons_succ, List.getD_cons_zero, List.getD_cons_succ, decide_eq_true_eq, decide_eq_false_iff_not,
  List.getElem?_cons_zero, List.getElem?_cons_succ, addD_int, iaddD_int, subD_int, ltD_int, leD_int, gtD_int, geD_int, eqD_int, neD_int, eqD_bool, asB_bool, lenD_list, lenD_tuple, tupleD_list, tupleD_tuple, listD_list, listD_tuple, resOf, mulD_r, mulD_l, modD_int, divD_int, powD_int, addD_list, addL_list, addD_tuple, cutD_toT, cutD_fromT, cutD_toL, cutD_fromL, cutO_toL, cutO_fromL, sortD_list, sortD_tuple, zipD_list, zipD_tuple, asLT_list, asLT_tuple, dFnO, dResO, dFnS, List.take_succ_cons, List.take_zero, List.drop_succ_cons, List.drop_zero, addD_T, iaddD_T, lenD_T, cutD_to, cutD_from, eqD_T, neD_T, isiD_str, dSl, dSome, dNo, asI_int, letter_small, letter_great, ev_andM, ev_orM, maxD_int, minD_int, absD_int, isiD_bool, getD'_ints, getD'_intsT, getD'_atC, getD'_atCT, rngD_one, rngD_two, isNotD_none, isD_none])
/-! ### sum_at -/
theorem srt_nil : srt [] = [] := by unfold srt; simp
theorem srt_one (x : D) : srt [x] = [x] := by unfold srt; simp
theorem srt_two {x y : D} (h : leA y x = false) : srt [x, y] = [x, y] := by
  have hp : (srt [x, y]).Perm [x, y] := List.mergeSort_perm _ _
  have hs := srtA_pairwise [x, y]
  obtain ⟨a, b, e⟩ : ∃ a b, srt [x, y] = [a, b] := by
    have hl := hp.length_eq
    match srt [x, y], hl with
    | [a, b], _ => exact ⟨a, b, rfl⟩
  rw [e] at hp hs ⊢
  have h1 : a ∈ [x, y] := hp.mem_iff.mp (by simp)
  have h2 : leA a b = true := by simpa using hs
  rcases List.mem_cons.mp h1 with rfl | h1
  · have := (List.perm_cons a).mp hp
    rw [List.singleton_perm_singleton.mp this]
  · have h1 := List.mem_singleton.mp h1
    subst h1
    have hp2 : [a, b].Perm [a, x] := hp.trans (List.Perm.swap _ _ _)
    have := List.singleton_perm_singleton.mp ((List.perm_cons a).mp hp2)
    subst this
    rw [h2] at h
    cases h
def sTest : DEnv → M Bool := dTst (d2 eqD (dSl cutD (dVarS 0) (dSome (dVar 1)) (dSome (d2 addD (dVarS 1) (dC (.int 3))))) (dC (.str " + ")))
def sStep (RP : List D → Option Res) : DEnv → Option Out := dSeq (dAsg (gT 2 (gCons' (gN 3) (gCons' (gN 1) gNil'))) (dFn (fun ds => RP (ds ++ [])) (dCons (dVar 0) (dCons (d2 addD (dVarS 1) (dC (.int 3))) dNil)))) (dSet 2 (dFn (fun ds => G_plus (ds ++ [])) (dCons (dVar 2) (dCons (dVar 3) dNil))))
section
variable {w : Wds} (h : w.Ok) {E : Errs}
include h
theorem wd_len {a : AN} (ha : a ≠ .lit []) : 1 ≤ (cw w a).length := by
  cases a with
  | x => exact h.x.2.1
  | s => exact h.s.2.1
  | lit l =>
    cases l with
    | nil => exact absurd rfl ha
    | cons c l => show 1 ≤ (c :: l).length; simp
theorem bag_nil : Bag (Item 1) (bagA w []) ∧ Pos (bagA w []) := ⟨⟨fun p hp => (by cases hp), List.nodup_nil⟩, fun p hp => (by cases hp)⟩
theorem bag_one {a : AN} (ha : a ≠ .lit []) {i : Nat} (hi : 0 < i) : Bag (Item 1) (bagA w [(a, .k i)]) ∧ Pos (bagA w [(a, .k i)]) := by
  refine ⟨⟨fun p hp => ?_, by simp [bagA]⟩, fun p hp => ?_⟩
  · rw [List.mem_singleton.mp hp]
    exact flat_any h (wd_len h ha)
  · rw [List.mem_singleton.mp hp]
    show (1 : Int) ≤ (i : Nat)
    omega
omit h in
theorem plus_go {l m r : List (AN × AC)} (h1 : Bag (Item 1) (bagA w l) ∧ Pos (bagA w l)) (h2 : Bag (Item 1) (bagA w m) ∧ Pos (bagA w m)) (h3 : Bag (Item 1) (bagA w r) ∧ Pos (bagA w r)) (hl : l.length + m.length ≤ 1000000) (hk : ∀ k, kcn (bagA w r) k = kcn (bagA w l) k + kcn (bagA w m) k) (hs : srt ((bagA w r).map pr) = (bagA w r).map pr) : G_plus [conc w (.fl l), conc w (.fl m)] = some (.ret false (conc w (.fl r))) := by
  rw [conc, conc, conc]
  have := plus_raw (keys_item (n := 1) (by omega)) h1.1 h1.2 h2.1 h2.2 (by unfold bagA; rw [List.length_map, List.length_map]; exact hl) h3.1 h3.2 hk
  rw [hs] at this
  exact this
theorem plus_conc {f g k : AF} (hp : aPlus f g = some k) : G_plus [conc w f, conc w g] = some (.ret false (conc w k)) := by
  unfold aPlus at hp
  split at hp
  · cases hp
    exact plus_go (bag_nil h) (bag_nil h) (bag_nil h) (by simp) (fun k => rfl) srt_nil
  · rename_i a j
    split at hp
    · rename_i hc
      cases hp
      refine plus_go (bag_nil h) (bag_one h hc.2 hc.1) (bag_one h hc.2 hc.1) (by simp) (fun k => ?_) (srt_one _)
      have : kcn (bagA w []) k = 0 := rfl
      omega
    · cases hp
  · rename_i a i
    split at hp
    · rename_i hc
      cases hp
      refine plus_go (bag_one h hc.2 hc.1) (bag_nil h) (bag_one h hc.2 hc.1) (by simp) (fun k => ?_) (srt_one _)
      have : kcn (bagA w []) k = 0 := rfl
      omega
    · cases hp
  · rename_i a i b j
    split at hp
    · rename_i hc
      split at hp
      · rename_i hab
        subst hab
        cases hp
        refine plus_go (bag_one h hc.2.2 hc.1) (bag_one h hc.2.2 hc.2.1) (bag_one h hc.2.2 (by omega)) (by simp) (fun k => ?_) (srt_one _)
        simp only [bagA, List.map_cons, List.map_nil, kcn_cons, kcn_nil, cc]
        split <;> omega
      · split at hp
        · rename_i hn hab
          obtain ⟨rfl, rfl⟩ := hab
          cases hp
          refine plus_go (bag_one h hc.2.2 hc.1) (bag_one h (by simp) hc.2.1) ⟨⟨fun p hp => ?_, ?_⟩, fun p hp => ?_⟩ (by simp) (fun k => ?_) (srt_two ?_)
          · rcases List.mem_cons.mp hp with rfl | hp
            · exact flat_any h (by show 1 ≤ [97].length; simp)
            · rw [List.mem_singleton.mp hp]
              exact flat_any h (a := .lit [97, 98, 99, 100]) (by show 1 ≤ [97, 98, 99, 100].length; simp)
          · show [anyW [97], anyW [97, 98, 99, 100]].Nodup
            refine List.nodup_cons.mpr ⟨fun z => ?_, by simp⟩
            have z := List.mem_singleton.mp z
            injection z with z
            injection z with _ z
            injection z with z _
            injection z with z
            exact absurd (T_inj z) (by decide)
          · rcases List.mem_cons.mp hp with rfl | hp
            · show (1 : Int) ≤ (i : Nat)
              omega
            · rw [List.mem_singleton.mp hp]
              show (1 : Int) ≤ (j : Nat)
              omega
          · simp only [bagA, List.map_cons, List.map_nil, kcn_cons, kcn_nil, cc]
            omega
          · rfl
        · cases hp
    · cases hp
  · cases hp
theorem loop_ok {Pt : List Tk → Option AR} {RP : List D → Option Res} (hP : Okf w E RP Pt) {W : List Tk} (hW : Tx w W) : ∀ (m : Nat) (f : AF) (r pre : List Tk) (x3 : Option Sl), W = pre ++ r →
    match aLoop Pt m f r with
    | none => True
    | some .er => ∃ e, whileD sTest (sStep RP) m [some (.fz (.str (T (fl w W)))), some (.fz (.int (fl w pre).length)), some (.fz (conc w f)), x3] = some (.xc (.ref (E.c "NoText")) e)
    | some (.ok g r') => ∃ mid x3', r = mid ++ r' ∧ whileD sTest (sStep RP) m [some (.fz (.str (T (fl w W)))), some (.fz (.int (fl w pre).length)), some (.fz (conc w f)), x3] = some (.nx [some (.fz (.str (T (fl w W)))), some (.fz (.int (fl w (pre ++ mid)).length)), some (.fz (conc w g)), x3']) := by
  intro m
  induction m with
  | zero => intro f r pre x3 _; unfold aLoop; trivial
  | succ m ih =>
    intro f r pre x3 hWe
    by_cases hr : ∃ r1, r = ([32, 43, 32] : List Nat).map Tk.c ++ r1
    · obtain ⟨r1, rfl⟩ := hr
      subst hWe
      have ht : sTest [some (.fz (.str (T (fl w (pre ++ (List.map Tk.c [32, 43, 32] ++ r1)))))), some (.fz (.int (fl w pre).length)), some (.fz (conc w f)), x3] = mok true := test_yes h (r := r1) [32, 43, 32] (by decide) hW rfl rfl
      have e0 : aLoop Pt (m + 1) f (([32, 43, 32] : List Nat).map Tk.c ++ r1) = match Pt r1 with
        | none => none
        | some .er => some .er
        | some (.ok g r2) => match aPlus f g with
          | some h => aLoop Pt m h r2
          | none => none := by
        rfl
      rw [e0]
      have hcall := okf_at hP (pre := pre ++ [.c 32, .c 43, .c 32]) (ts := r1) hW (by rw [List.append_assoc]; rfl) (i := (fl w pre).length + 3) (by rw [len_app]; rfl)
      generalize hWW : fl w (pre ++ (List.map Tk.c [32, 43, 32] ++ r1)) = WW at *
      cases hSr : Pt r1 with
      | none => trivial
      | some ar =>
        cases ar with
        | er =>
          rw [hSr] at hcall
          have hcall : RP [.str (T WW), .int ((fl w pre).length + 3)] = Nt E := hcall
          have hstep : sStep RP [some (.fz (.str (T WW))), some (.fz (.int (fl w pre).length)), some (.fz (conc w f)), x3] = some (.xc (.ref (E.c "NoText")) [some (.fz (.str (T WW))), some (.fz (.int (fl w pre).length)), some (.fz (conc w f)), x3]) := by
            unfold sStep
            refine dSeq_xc ?_
            show eS (dRes (RP ([.str (T WW), .int ((fl w pre).length + 3)] ++ []))) _ _ = _
            rw [List.append_nil, hcall]
            rfl
          refine ⟨[some (.fz (.str (T WW))), some (.fz (.int (fl w pre).length)), some (.fz (conc w f)), x3], ?_⟩
          simp only [whileD, ht, eS_mok, if_true, hstep]
        | ok g r2 =>
          rw [hSr] at hcall
          obtain ⟨mid, hmid, hcall⟩ := hcall
          simp only
          cases hpl : aPlus f g with
          | none => trivial
          | some k =>
            have hpc := plus_conc h hpl
            have hstep : sStep RP [some (.fz (.str (T WW))), some (.fz (.int (fl w pre).length)), some (.fz (conc w f)), x3] = some (.nx [some (.fz (.str (T WW))), some (.fz (.int (fl w (pre ++ [.c 32, .c 43, .c 32] ++ mid)).length)), some (.fz (conc w k)), some (.fz (conc w g))]) := by
              unfold sStep
              refine dSeq_nx (e := [some (.fz (.str (T WW))), some (.fz (.int (fl w (pre ++ [.c 32, .c 43, .c 32] ++ mid)).length)), some (.fz (conc w f)), some (.fz (conc w g))]) ?_ ?_
              · show eS (dRes (RP ([.str (T WW), .int ((fl w pre).length + 3)] ++ []))) _ _ = _
                rw [List.append_nil, hcall]
                rfl
              · show eS (dRes (G_plus ([conc w f, conc w g] ++ []))) _ _ = _
                rw [List.append_nil, hpc]
                rfl
            have := ih k r2 (pre ++ [.c 32, .c 43, .c 32] ++ mid) (some (.fz (conc w g))) (by rw [hmid]; simp)
            simp only
            cases hL : aLoop Pt m k r2 with
            | none => trivial
            | some ar2 =>
              rw [hL] at this
              cases ar2 with
              | er =>
                obtain ⟨e, he⟩ := this
                exact ⟨e, (whileD_more ht hstep).trans he⟩
              | ok g' r' =>
                obtain ⟨mid2, x3', g2, g3⟩ := this
                refine ⟨[.c 32, .c 43, .c 32] ++ mid ++ mid2, x3', ?_, ?_⟩
                · rw [hmid, g2]
                  simp
                · rw [whileD_more ht hstep, g3]
                  simp only [List.append_assoc]
    · have ht : sTest [some (.fz (.str (T (fl w W)))), some (.fz (.int (fl w pre).length)), some (.fz (conc w f)), x3] = mok false := test_no h [32, 43, 32] (by decide) (fun r1 e => hr ⟨r1, e⟩) (hWe ▸ hW) (by rw [hWe]; rfl) rfl
      have e0 : aLoop Pt (m + 1) f r = some (.ok f r) := by
        unfold aLoop
        split
        · rename_i he
          cases he
        · exact absurd ⟨_, rfl⟩ hr
        · rfl
      rw [e0]
      refine ⟨[], x3, rfl, ?_⟩
      rw [whileD_done ht, List.append_nil]
theorem sum_ok {Pt : List Tk → Option AR} {RP : List D → Option Res} (hP : Okf w E RP Pt) (RT RB RS : List D → Option Res) : Okf w E (runD 4 (g_sum_at E RT RB RP RS)) (aSum Pt) := by
  intro pre ts hW
  show Mt w E (resOf (g_sum_at E RT RB RP RS (startD 4 [.str (T (fl w (pre ++ ts))), .int (fl w pre).length]))) pre ts _
  have hcall := hP pre ts hW
  unfold aSum
  have hl := fun f r pre' x3 e => loop_ok h hP hW 200 f r pre' x3 e
  generalize hWW : fl w (pre ++ ts) = WW at *
  cases hPt : Pt ts with
  | none => trivial
  | some ar =>
    rw [hPt] at hcall
    cases ar with
    | er =>
      have hcall : RP [.str (T WW), .int (fl w pre).length] = Nt E := hcall
      refine congrArg resOf (dSeq_xc (e := startD 4 [.str (T WW), .int (fl w pre).length]) ?_)
      show eS (dRes (RP ([.str (T WW), .int (fl w pre).length] ++ []))) _ _ = _
      rw [List.append_nil, hcall]
      rfl
    | ok f r =>
      obtain ⟨mid, hmid, hcall⟩ := hcall
      have h1 : ∀ k : DEnv → Option Out, dSeq (dAsg (gT 2 (gCons' (gN 2) (gCons' (gN 1) gNil'))) (dFn (fun ds => RP (ds ++ [])) (dCons (dVar 0) (dCons (dVar 1) dNil)))) k (startD 4 [.str (T WW), .int (fl w pre).length]) = k [some (.fz (.str (T WW))), some (.fz (.int (fl w (pre ++ mid)).length)), some (.fz (conc w f)), none] := fun k => by
        refine dSeq_nx ?_ rfl
        show eS (dRes (RP ([.str (T WW), .int (fl w pre).length] ++ []))) _ _ = _
        rw [List.append_nil, hcall]
        rfl
      have := hl f r (pre ++ mid) none (by rw [hmid]; simp)
      show Mt w E _ pre ts (aLoop Pt 200 f r)
      cases hL : aLoop Pt 200 f r with
      | none => trivial
      | some ar2 =>
        rw [hL] at this
        cases ar2 with
        | er =>
          obtain ⟨e, he⟩ := this
          exact congrArg resOf ((h1 _).trans (dSeq_xc he))
        | ok g r' =>
          obtain ⟨mid2, x3', g2, g3⟩ := this
          refine ⟨mid ++ mid2, by rw [hmid, g2]; simp, ?_⟩
          refine (congrArg resOf ((h1 _).trans (dSeq_nx g3 rfl))).trans ?_
          rw [← List.append_assoc]
          rfl
theorem rd_ok : ∀ n : Nat, Okf w E (G_thing_at E n) (rd n).thing ∧ Okf w E (G_body_at E n) (rd n).body ∧ Okf w E (G_part_at E n) (rd n).part ∧ Okf w E (G_sum_at E n) (rd n).sum
  | 0 => ⟨fun _ _ _ => trivial, fun _ _ _ => trivial, fun _ _ _ => trivial, fun _ _ _ => trivial⟩
  | n + 1 => by
    obtain ⟨h1, h2, h3, h4⟩ := rd_ok n
    rw [G_thing_at, G_body_at, G_part_at, G_sum_at]
    exact ⟨thing_ok h h4 _ _ _, body_ok h h4 h1 _ _, part_ok h h2 _ _ _, sum_ok h h3 _ _ _⟩
end
end K14

namespace K14
open PySem PySem.Spec PyProof.Rows L2 DL
local macro_rules | `(tactic| walk_at "ev") => `(tactic| simp (disch := first | omega | (simp only [List.length_cons, List.length_nil, List.length_map, List.length_append, List.length_take, List.length_drop] <;> omega) | fail) only [ startD, List.map_cons, List.map_nil, List.cons_append, List.nil_append, List.length_cons, List.length_nil, List.length_map, List.replicate, List.append_nil,
  ev_seq, ev_nx, ev_rt, ev_xc, ev_bk, ev_ct, ev_ss, ev_if, ev_ifT, ev_ifF, ev_stepN, lp_nx, lp_ct, lp_bk, lp_rt, lp_xc, wp_some,
  dSet, dSetO, dRet, dRetO, dRetVar, dNx, eS_ok, eS_mok, mbind_ok, mbind_mok, dTst, d2, d1, dVar, dVarS, dC, dCall, dCons, dNil, dFn, ev_ret, ev_exc, dAnd, dOr, dNot, dAndV, dOrV, dNotV, dTup, dLst, dApp, dSetIx, dAug, dYes, dIt, dItA,  wipeD, gN, gT, gCons', gNil', ev_appOk, ixN_ok, Option.bind_some,
  if_true, if_false, Bool.true_and, Bool.false_and, Bool.and_true, Bool.and_false, Bool.true_or, Bool.false_or, Bool.or_true, Bool.or_false, Bool.not_true, Bool.not_false, decide_true, decide_false, reduceIte, Bool.false_eq_true,
  Int.reduceToNat, Int.reduceAdd, Int.reduceSub, Int.reduceMul, Int.reduceMod, Int.reduceLT, Int.reduceLE, Int.reduceEq, Nat.reduceAdd, Nat.reduceSub, Nat.reduceEqDiff, Nat.reduceLT, Int.reducePow, gt_iff_lt, ge_iff_le, Int.reduceGT, Int.toNat_zero, Int.toNat_one, List.set_cons_zero, List.set_cons_succ, List.getD_cons_zero, List.getD_cons_succ, decide_eq_true_eq, decide_eq_false_iff_not,
  List.getElem?_cons_zero, List.getElem?_cons_succ, addD_int, iaddD_int, subD_int, ltD_int, leD_int, gtD_int, geD_int, eqD_int, neD_int, eqD_bool, asB_bool, lenD_list, lenD_tuple, tupleD_list, tupleD_tuple, listD_list, listD_tuple, resOf, mulD_r, mulD_l, modD_int, divD_int, powD_int, addD_list, addL_list, addD_tuple, cutD_toT, cutD_fromT, cutD_toL, cutD_fromL, cutO_toL, cutO_fromL, sortD_list, sortD_tuple, zipD_list, zipD_tuple, asLT_list, asLT_tuple, dFnO, dResO, dFnS, List.take_succ_cons, List.take_zero, List.drop_succ_cons, List.drop_zero, addD_T, iaddD_T, lenD_T, cutD_to, cutD_from, eqD_T, neD_T, isiD_str, dSl, dSome, dNo, asI_int, letter_small, letter_great, ev_andM, ev_orM, maxD_int, minD_int, absD_int, isiD_bool, getD'_ints, getD'_intsT, getD'_atC, getD'_atCT, rngD_one, rngD_two, isNotD_none, isD_none])
local macro_rules | `(tactic| walk_at "un") => `(tactic| simp (disch := first | omega | (simp only [List.length_cons, List.length_nil, List.length_map, List.length_append, List.length_take, List.length_drop] <;> omega) | fail) only [ dFor, ev_forN, ev_forS, ev_lnx, ev_lct, ev_lbk, ev_lrt, ev_lxc, rngL_step, rngL_nil, range_0, range_1, range_2, range_3, range_4, range_5, startD, List.map_cons, List.map_nil, List.cons_append, List.nil_append, List.length_cons, List.length_nil, List.length_map, List.replicate, List.append_nil,
  ev_seq, ev_nx, ev_rt, ev_xc, ev_bk, ev_ct, ev_ss, ev_if, ev_ifT, ev_ifF, ev_stepN, lp_nx, lp_ct, lp_bk, lp_rt, lp_xc, wp_some,
  dSet, dSetO, dRet, dRetO, dRetVar, dNx, eS_ok, eS_mok, mbind_ok, mbind_mok, dTst, d2, d1, dVar, dVarS, dC, dCall, dCons, dNil, dFn, ev_ret, ev_exc, dAnd, dOr, dNot, dAndV, dOrV, dNotV, dTup, dLst, dApp, dSetIx, dAug, dYes, dIt, dItA,  wipeD, gN, gT, gCons', gNil', ev_appOk, ixN_ok, Option.bind_some,
  if_true, if_false, Bool.true_and, Bool.false_and, Bool.and_true, Bool.and_false, Bool.true_or, Bool.false_or, Bool.or_true, Bool.or_false, Bool.not_true, Bool.not_false, decide_true, decide_false, reduceIte, Bool.false_eq_true,
  Int.reduceToNat, Int.reduceAdd, Int.reduceSub, Int.reduceMul, Int.reduceMod, Int.reduceLT, Int.reduceLE, Int.reduceEq, Nat.reduceAdd, Nat.reduceSub, Nat.reduceEqDiff, Nat.reduceLT, Int.reducePow, gt_iff_lt, ge_iff_le, Int.reduceGT, Int.toNat_zero, Int.toNat_one, List.set_cons_zero, List.set_cons_succ, List.getD_cons_zero, List.getD_cons_succ, decide_eq_true_eq, decide_eq_false_iff_not,
  List.getElem?_cons_zero, List.getElem?_cons_succ, addD_int, iaddD_int, subD_int, ltD_int, leD_int, gtD_int, geD_int, eqD_int, neD_int, eqD_bool, asB_bool, lenD_list, lenD_tuple, tupleD_list, tupleD_tuple, listD_list, listD_tuple, resOf, mulD_r, mulD_l, modD_int, divD_int, powD_int, addD_list, addL_list, addD_tuple, cutD_toT, cutD_fromT, cutD_toL, cutD_fromL, cutO_toL, cutO_fromL, sortD_list, sortD_tuple, zipD_list, zipD_tuple, asLT_list, asLT_tuple, dFnO, dResO, dFnS, List.take_succ_cons, List.take_zero, List.drop_succ_cons, List.drop_zero, addD_T, iaddD_T, lenD_T, cutD_to, cutD_from, eqD_T, neD_T, isiD_str, dSl, dSome, dNo, asI_int, letter_small, letter_great, ev_andM, ev_orM, maxD_int, minD_int, absD_int, isiD_bool, getD'_ints, getD'_intsT, getD'_atC, getD'_atCT, rngD_one, rngD_two, isNotD_none, isD_none])
/-! ### ask_text, read, refused -/
def st1 (d : Int) (c : Nat) : Int := (if c = 40 then d + 1 else d) - (if c = 41 then 1 else 0)
def deepL : Int → List Nat → Bool
  | _, [] => true
  | d, c :: l => if 20 < st1 d c then false else deepL (st1 d c) l
def askB (E : Errs) : DEnv → Option Out := dSeq (dIfS (dTst (d2 eqD (dVarS 2) (dC (.str "(")))) (dAug 1 iaddD (dC (.int 1))) dNx) (dSeq (dIfS (dTst (d2 eqD (dVarS 2) (dC (.str ")")))) (dAug 1 subD (dC (.int 1))) dNx) (dIfS (dTst (d2 gtD (dVarS 1) (dC (.int 20)))) (dRaise (.ref (E.c "NoText"))) dNx))
theorem askB_ok (E : Errs) (S : Str) (d : Int) (c : Nat) : askB E [some (.fz (.str S)), some (.fz (.int d)), some (.fz (.str (T [c])))] = if 20 < st1 d c then some (.xc (.ref (E.c "NoText")) [some (.fz (.str S)), some (.fz (.int (st1 d c))), some (.fz (.str (T [c])))]) else some (.nx [some (.fz (.str S)), some (.fz (.int (st1 d c))), some (.fz (.str (T [c])))]) := by
  have e40 : eqD (.str (T [c])) (.str (Str.ofString "(")) = mok (.bool (decide (c = 40))) := by
    show eqD (.str (T [c])) (.str (T [40])) = _
    rw [eqD_T]
    simp
  have e41 : eqD (.str (T [c])) (.str (Str.ofString ")")) = mok (.bool (decide (c = 41))) := by
    show eqD (.str (T [c])) (.str (T [41])) = _
    rw [eqD_T]
    simp
  have t40 : ∀ x : Int, dTst (d2 eqD (dVarS 2) (dC (.str "("))) [some (.fz (.str S)), some (.fz (.int x)), some (.fz (.str (T [c])))] = mok (decide (c = 40)) := fun x => by
    show mbind (eqD (.str (T [c])) (.str (Str.ofString "("))) asB = _
    rw [e40]
    rfl
  have t41 : ∀ x : Int, dTst (d2 eqD (dVarS 2) (dC (.str ")"))) [some (.fz (.str S)), some (.fz (.int x)), some (.fz (.str (T [c])))] = mok (decide (c = 41)) := fun x => by
    show mbind (eqD (.str (T [c])) (.str (Str.ofString ")"))) asB = _
    rw [e41]
    rfl
  have h1 : dIfS (dTst (d2 eqD (dVarS 2) (dC (.str "(")))) (dAug 1 iaddD (dC (.int 1))) dNx [some (.fz (.str S)), some (.fz (.int d)), some (.fz (.str (T [c])))] = some (.nx [some (.fz (.str S)), some (.fz (.int (if c = 40 then d + 1 else d))), some (.fz (.str (T [c])))]) := by
    by_cases hc : c = 40
    · rw [if_pos hc]
      exact dIfS_t ((t40 d).trans (by rw [decide_eq_true hc])) rfl
    · rw [if_neg hc]
      exact dIfS_f ((t40 d).trans (by rw [decide_eq_false hc])) rfl
  have h2 : dIfS (dTst (d2 eqD (dVarS 2) (dC (.str ")")))) (dAug 1 subD (dC (.int 1))) dNx [some (.fz (.str S)), some (.fz (.int (if c = 40 then d + 1 else d))), some (.fz (.str (T [c])))] = some (.nx [some (.fz (.str S)), some (.fz (.int (st1 d c))), some (.fz (.str (T [c])))]) := by
    unfold st1
    by_cases hc : c = 41
    · have hn : ¬ c = 40 := by omega
      rw [if_neg hn, if_pos hc]
      exact dIfS_t ((t41 _).trans (by rw [decide_eq_true hc])) rfl
    · rw [if_neg hc, Int.sub_zero]
      exact dIfS_f ((t41 _).trans (by rw [decide_eq_false hc])) rfl
  have t3 : dTst (d2 gtD (dVarS 1) (dC (.int 20))) [some (.fz (.str S)), some (.fz (.int (st1 d c))), some (.fz (.str (T [c])))] = mok (decide (20 < st1 d c)) := by
    simp only [dTst, d2, dVarS, dC, List.getElem?_cons_zero, List.getElem?_cons_succ, mbind_mok, gtD_int, asB_bool]
  unfold askB
  refine dSeq_nx h1 (dSeq_nx h2 ?_)
  by_cases hd : 20 < st1 d c
  · rw [if_pos hd]
    exact dIfS_t (t3.trans (by rw [decide_eq_true hd])) rfl
  · rw [if_neg hd]
    exact dIfS_f (t3.trans (by rw [decide_eq_false hd])) rfl
theorem ask_loop (E : Errs) (S : Str) : ∀ (l : List Nat) (d : Int) (x : Option Sl), ∃ e, forD (gN 2) (askB E) (l.map fun c => .str (T [c])) [some (.fz (.str S)), some (.fz (.int d)), x] = if deepL d l then some (.nx e) else some (.xc (.ref (E.c "NoText")) e)
  | [], d, x => ⟨_, rfl⟩
  | c :: l, d, x => by
    have hb := askB_ok E S d c
    rw [List.map_cons]
    have hg : gN 2 (.str (T [c])) [some (.fz (.str S)), some (.fz (.int d)), x] = some [some (.fz (.str S)), some (.fz (.int d)), some (.fz (.str (T [c])))] := rfl
    by_cases hd : 20 < st1 d c
    · rw [if_pos hd] at hb
      refine ⟨[some (.fz (.str S)), some (.fz (.int (st1 d c))), some (.fz (.str (T [c])))], ?_⟩
      simp only [forD, hg, hb, deepL, if_pos hd, Bool.false_eq_true, if_false]
    · rw [if_neg hd] at hb
      obtain ⟨e, he⟩ := ask_loop E S l (st1 d c) (some (.fz (.str (T [c]))))
      refine ⟨e, ?_⟩
      simp only [forD, hg, hb, deepL, if_neg hd]
      exact he
theorem charsD_T (l : List Nat) : charsD (T l) = l.map fun c => .str (T [c]) := by
  unfold charsD T
  rfl
theorem ask_ok (E : Errs) {l : List Nat} (hl : l.length ≤ 600) : G_ask_text E [.str (T l)] = if deepL 0 l then some (.ret false .none) else Nt E := by
  show resOf (g_ask_text E (startD 3 [.str (T l)])) = _
  have t1 : dOr (dNot (dTst (d1 (isiX "str") (dVarS 0)))) (dTst (d2 gtD (dCall lenD (dCons (dVarS 0) dNil)) (dC (.int 600)))) (startD 3 [.str (T l)]) = mok false := by
    have hln : lenD [.str (T l)] = mok (.int l.length) := lenD_T (by omega)
    have hi : isiX "str" (.str (T l)) = mok (.bool true) := rfl
    have e1 : decide ((600 : Int) < l.length) = false := decide_eq_false (by omega)
    simp only [dOr, dNot, dTst, d1, d2, dCall, dCons, dNil, dVarS, dC, startD, List.map_cons, List.map_nil, List.cons_append, List.getElem?_cons_zero, mbind_mok, hi, hln, gtD_int, asB_bool, e1, Bool.not_true, Bool.false_eq_true, if_false]
  obtain ⟨e, he⟩ := ask_loop E (T l) l 0 none
  have h2 : g_ask_text E (startD 3 [.str (T l)]) = if deepL 0 l then some (.nx e) else some (.xc (.ref (E.c "NoText")) e) := by
    unfold g_ask_text
    refine dSeq_nx (dIfS_f t1 rfl) (dSeq_nx rfl ?_)
    rw [← he, ← charsD_T]
    rfl
  rw [h2]
  cases deepL 0 l <;> rfl
theorem ask_long (E : Errs) {l : List Nat} (hl : 600 < l.length) (h2 : l.length ≤ 16777216) : G_ask_text E [.str (T l)] = Nt E := by
  show resOf (g_ask_text E (startD 3 [.str (T l)])) = _
  have t1 : dOr (dNot (dTst (d1 (isiX "str") (dVarS 0)))) (dTst (d2 gtD (dCall lenD (dCons (dVarS 0) dNil)) (dC (.int 600)))) (startD 3 [.str (T l)]) = mok true := by
    have hln : lenD [.str (T l)] = mok (.int l.length) := lenD_T (by omega)
    have hi : isiX "str" (.str (T l)) = mok (.bool true) := rfl
    have e1 : decide ((600 : Int) < l.length) = true := decide_eq_true (by omega)
    simp only [dOr, dNot, dTst, d1, d2, dCall, dCons, dNil, dVarS, dC, startD, List.map_cons, List.map_nil, List.cons_append, List.getElem?_cons_zero, mbind_mok, hi, hln, gtD_int, asB_bool, e1, Bool.not_true, Bool.false_eq_true, if_false]
  exact congrArg resOf (dSeq_xc (dIfS_t t1 rfl))
theorem ask_no (E : Errs) {d : D} (hd : isiX "str" d = mok (.bool false)) : G_ask_text E [d] = Nt E := by
  show resOf (g_ask_text E (startD 3 [d])) = _
  have t1 : dOr (dNot (dTst (d1 (isiX "str") (dVarS 0)))) (dTst (d2 gtD (dCall lenD (dCons (dVarS 0) dNil)) (dC (.int 600)))) (startD 3 [d]) = mok true := by
    simp only [dOr, dNot, dTst, d1, dVarS, startD, List.map_cons, List.map_nil, List.cons_append, List.getElem?_cons_zero, mbind_mok, hd, asB_bool, Bool.not_false, if_true]
  exact congrArg resOf (dSeq_xc (dIfS_t t1 rfl))
theorem read_ask (E : Errs) {d : D} (hd : G_ask_text E [d] = Nt E) : G_read E [d] = Nt E := by
  show resOf (g_read E (startD 3 [d])) = _
  refine congrArg resOf (dSeq_xc (e := startD 3 [d]) ?_)
  show eS (dRes (G_ask_text E ([d] ++ []))) _ _ = _
  rw [List.append_nil, hd]
  rfl
theorem refused_ok {E : Errs} (hE : E.Good ["NoText"]) {d : D} (hm : G_read E [d] = Nt E) : G_l_refused E [d] = some (.ret false (.bool true)) := by
  refine run_rt ?_
  unfold g_l_refused
  have hb : dExpr (dFn (fun ds => G_read E (ds ++ [])) (dCons (dVar 0) dNil)) (startD 3 [d]) = some (.xc (.ref (E.c "NoText")) [some (.fz d), none, none]) := by
    simp only [dExpr, dFn, dCons, dNil, startD, List.map_cons, List.map_nil, List.cons_append, List.nil_append, dVar, List.getElem?_cons_zero, List.getElem?_cons_succ, mbind_mok, List.append_nil, hm, dRes, Nt]
    rfl
  rw [ev_seq, ev_try hb (by rw [caE hE (by simp)]; rfl) rfl]
  have i1 : E.is (.ref (E.c "NoText")) "NoText" = true := by rw [isE' hE (by simp)]; rfl
  have i2 : E.is (.ref (E.c "NoText")) "NoRow" = false := by rw [isE' hE (by simp)]; rfl
  have i3 : E.is (.ref (E.c "NoText")) "NoRule" = false := by rw [isE' hE (by simp)]; rfl
  have i4 : E.is (.ref (E.c "NoText")) "TooMany" = false := by rw [isE' hE (by simp)]; rfl
  have i5 : E.is (.ref (E.c "NoText")) "ValueError" = true := by rw [isE' hE (by simp)]; rfl
  rw [i1, i2, i3, i4, i5]
  rfl
/-! ### on signs and words -/
def capT : Tk → Nat
  | .x => 6
  | .s => 6
  | .n => 18
  | .c _ => 1
def cap : List Tk → Nat
  | [] => 0
  | t :: ts => capT t + cap ts
theorem cap_ok {w : Wds} (h : w.Ok) : ∀ ts : List Tk, (fl w ts).length ≤ cap ts
  | [] => Nat.le_refl _
  | t :: ts => by
    have := cap_ok h ts
    rw [fl_cons, List.length_append, cap]
    have h1 : (fl1 w t).length ≤ capT t := by
      cases t with
      | x => exact h.x.2.2
      | s => exact h.s.2.2
      | n => exact h.n.2.2
      | c k => exact Nat.le_refl _
    omega
def deepT : Int → List Tk → Bool
  | _, [] => true
  | d, .c k :: ts => if 20 < st1 d k then false else deepT (st1 d k) ts
  | d, _ :: ts => deepT d ts
theorem deepL_word {d : Int} (hd : d ≤ 20) : ∀ {a l : List Nat}, (∀ c ∈ a, kind c ≠ 3) → deepL d (a ++ l) = deepL d l
  | [], _, _ => rfl
  | c :: a, l, h => by
    have hc := h c List.mem_cons_self
    have e : st1 d c = d := by
      unfold st1
      rw [if_neg (fun z => hc (by rw [z]; rfl)), if_neg (fun z => hc (by rw [z]; rfl))]
      omega
    rw [List.cons_append, deepL, e, if_neg (by omega), deepL_word hd fun c hc => h c (List.mem_cons_of_mem _ hc)]
theorem deep_ok {w : Wds} (h : w.Ok) : ∀ (ts : List Tk) (d : Int), d ≤ 20 → deepL d (fl w ts) = deepT d ts
  | [], d, _ => by rw [deepT]; rfl
  | .c k :: ts, d, hd => by
    rw [fl_cons, deepT]
    show deepL d (k :: fl w ts) = _
    rw [deepL]
    split
    · rfl
    · exact deep_ok h ts _ (by omega)
  | .x :: ts, d, hd => by
    rw [fl_cons, deepT, deepL_word hd fun c hc => by rw [kind_cls h .x c hc]; decide]
    · exact deep_ok h ts _ hd
    · intro k hk; cases hk
  | .s :: ts, d, hd => by
    rw [fl_cons, deepT, deepL_word hd fun c hc => by rw [kind_cls h .s c hc]; decide]
    · exact deep_ok h ts _ hd
    · intro k hk; cases hk
  | .n :: ts, d, hd => by
    rw [fl_cons, deepT, deepL_word hd fun c hc => by rw [kind_cls h .n c hc]; decide]
    · exact deep_ok h ts _ hd
    · intro k hk; cases hk
def ascT : List Tk → Bool
  | [] => true
  | .c k :: ts => decide (k < 128) && ascT ts
  | _ :: ts => ascT ts
theorem asc_ok : ∀ {ts : List Tk}, ascT ts = true → ∀ k, Tk.c k ∈ ts → k < 128
  | [], _, k, hk => by cases hk
  | .c j :: ts, h, k, hk => by
    rw [ascT, Bool.and_eq_true, decide_eq_true_eq] at h
    rcases List.mem_cons.mp hk with e | hk
    · cases e; exact h.1
    · exact asc_ok h.2 k hk
  | .x :: ts, h, k, hk => by
    rcases List.mem_cons.mp hk with e | hk
    · cases e
    · exact asc_ok (ts := ts) h k hk
  | .s :: ts, h, k, hk => by
    rcases List.mem_cons.mp hk with e | hk
    · cases e
    · exact asc_ok (ts := ts) h k hk
  | .n :: ts, h, k, hk => by
    rcases List.mem_cons.mp hk with e | hk
    · cases e
    · exact asc_ok (ts := ts) h k hk
def aFin : Option AR → Option (Option AF)
  | none => none
  | some .er => some none
  | some (.ok f []) => some (some f)
  | some (.ok _ (_ :: _)) => some none
def aRead (ts : List Tk) : Option (Option AF) :=
  if ascT ts = true then
    if cap ts ≤ 600 then
      if deepT 0 ts = true then aFin ((rd 90).sum ts) else some none
    else match lits ts with
      | some l => if 600 < l.length ∧ l.length ≤ 1000 then some none else none
      | none => none
  else none
def RdM (w : Wds) (E : Errs) (ts : List Tk) : Option (Option AF) → Prop
  | none => True
  | some none => G_read E [.str (T (fl w ts))] = Nt E
  | some (some f) => G_read E [.str (T (fl w ts))] = some (.ret false (conc w f))
theorem read_ok {w : Wds} (h : w.Ok) (E : Errs) (ts : List Tk) : RdM w E ts (aRead ts) := by
  unfold aRead
  split
  · rename_i ha
    split
    · rename_i hc
      have hl := Nat.le_trans (cap_ok h ts) hc
      have hask := ask_ok E hl
      rw [deep_ok h ts 0 (by omega)] at hask
      split
      · rename_i hd
        rw [if_pos hd] at hask
        have hs := ((rd_ok h (E := E) 90).2.2.2) [] ts ⟨by rw [List.nil_append]; omega, by rw [List.nil_append]; exact asc_ok ha⟩
        rw [List.nil_append] at hs
        have hln : lenD [.str (T (fl w ts))] = mok (.int (fl w ts).length) := lenD_T (by omega)
        unfold RdM
        generalize hWW : T (fl w ts) = WW at *
        have h1 : ∀ k : DEnv → Option Out, dSeq (dExpr (dFn (fun ds => (G_ask_text E) (ds ++ [])) (dCons (dVar 0) dNil))) k (startD 3 [.str WW]) = k (startD 3 [.str WW]) := fun k => by
          refine dSeq_nx ?_ rfl
          show eS (dRes (G_ask_text E ([.str WW] ++ []))) _ _ = _
          rw [List.append_nil, hask]
          rfl
        have hasg : dAsg (gT 2 (gCons' (gN 1) (gCons' (gN 2) gNil'))) (dFn (fun ds => (G_sum_at E 90) (ds ++ [])) (dCons (dVar 0) (dCons (dC (.int 0)) dNil))) (startD 3 [.str WW]) = eS (dRes (G_sum_at E 90 [.str WW, .int 0])) (startD 3 [.str WW]) fun d => match gT 2 (gCons' (gN 1) (gCons' (gN 2) gNil')) d (startD 3 [.str WW]) with | some e => some (.nx e) | none => none := rfl
        have hs : Mt w E (G_sum_at E 90 [.str WW, .int 0]) [] ts ((rd 90).sum ts) := hs
        have fin : ∀ (f : AF) (mid : List Tk), G_sum_at E 90 [.str WW, .int 0] = some (.ret false (.tuple [conc w f, .int (fl w ([] ++ mid)).length])) → ∀ b : Bool, decide (((fl w mid).length : Int) = (fl w ts).length) = b → G_read E [.str WW] = if b then some (.ret false (conc w f)) else Nt E := fun f mid hg b hb => by
          have ha2 : dAsg (gT 2 (gCons' (gN 1) (gCons' (gN 2) gNil'))) (dFn (fun ds => (G_sum_at E 90) (ds ++ [])) (dCons (dVar 0) (dCons (dC (.int 0)) dNil))) (startD 3 [.str WW]) = some (.nx [some (.fz (.str WW)), some (.fz (conc w f)), some (.fz (.int (fl w mid).length))]) := by
            rw [hasg, hg]
            rfl
          have ht : dTst (d2 neD (dVarS 2) (dCall lenD (dCons (dVarS 0) dNil))) [some (.fz (.str WW)), some (.fz (conc w f)), some (.fz (.int (fl w mid).length))] = mok (!b) := by
            simp only [dTst, d2, dVarS, dCall, dCons, dNil, List.getElem?_cons_zero, List.getElem?_cons_succ, mbind_mok, hln, neD_int, asB_bool, hb]
          show resOf (g_read E (startD 3 [.str WW])) = _
          unfold g_read
          rw [h1]
          cases b with
          | true =>
            refine (congrArg resOf (dSeq_nx ha2 (dSeq_nx (r := some (.rt false (conc w f))) (e := [some (.fz (.str WW)), some (.fz (conc w f)), some (.fz (.int (fl w mid).length))]) (dIfS_f ht ?_) ?_))).trans ?_
            · rfl
            · rfl
            · rfl
          | false => exact congrArg resOf (dSeq_nx ha2 (dSeq_xc (dIfS_t ht rfl)))
        generalize (rd 90).sum ts = z at hs
        cases z with
        | none => trivial
        | some ar =>
          cases ar with
          | er =>
            have hs : G_sum_at E 90 [.str WW, .int 0] = Nt E := hs
            show G_read E [.str WW] = Nt E
            show resOf (g_read E (startD 3 [.str WW])) = _
            unfold g_read
            rw [h1]
            refine congrArg resOf (dSeq_xc (e := startD 3 [.str WW]) ?_)
            rw [hasg, hs]
            rfl
          | ok f r =>
            obtain ⟨mid, hm, hg⟩ := hs
            cases r with
            | nil => exact fin f mid hg true (decide_eq_true (by rw [hm, List.append_nil]))
            | cons t r =>
              refine fin f mid hg false (decide_eq_false fun z => ?_)
              obtain ⟨c, l, e⟩ := fl1_ne h t
              rw [hm, fl_app, fl_cons, e, List.length_append, List.length_append, List.length_cons] at z
              omega
      · rename_i hd
        rw [if_neg hd] at hask
        exact read_ask E hask
    · split
      · rename_i l hl
        split
        · rename_i hz
          refine read_ask E ?_
          rw [lits_fl w hl]
          exact ask_long E hz.1 (by omega)
        · trivial
      · trivial
  · trivial
end K14

namespace K14
open PySem PySem.Spec PyProof.Rows L2 DL
local macro_rules | `(tactic| walk_at "ev") => `(tactic| simp (disch := first | omega | (simp only [List.length_cons, List.length_nil, List.length_map, List.length_append, List.length_take, List.length_drop] <;> omega) | fail) only [cell_ok, pick_ok, startD, List.map_cons, List.map_nil, List.cons_append, List.nil_append, List.length_cons, List.length_nil, List.length_map, List.replicate, List.append_nil,
  ev_seq, ev_nx, ev_rt, ev_xc, ev_bk, ev_ct, ev_ss, ev_if, ev_ifT, ev_ifF, ev_stepN, lp_nx, lp_ct, lp_bk, lp_rt, lp_xc, wp_some,
  dSet, dSetO, dRet, dRetO, dRetVar, dNx, eS_ok, eS_mok, mbind_ok, mbind_mok, dTst, d2, d1, dVar, dVarS, dC, dCall, dCons, dNil, dFn, ev_ret, ev_exc, dAnd, dOr, dNot, dAndV, dOrV, dNotV, dTup, dLst, dApp, dSetIx, dAug, dYes, dIt, dItA,  wipeD, gN, gT, gCons', gNil', ev_appOk, ixN_ok, Option.bind_some,
  if_true, if_false, Bool.true_and, Bool.false_and, Bool.and_true, Bool.and_false, Bool.true_or, Bool.false_or, Bool.or_true, Bool.or_false, Bool.not_true, Bool.not_false, decide_true, decide_false, reduceIte, Bool.false_eq_true,
  Int.reduceToNat, Int.reduceAdd, Int.reduceSub, Int.reduceMul, Int.reduceMod, Int.reduceLT, Int.reduceLE, Int.reduceEq, Nat.reduceAdd, Nat.reduceSub, Nat.reduceEqDiff, Nat.reduceLT, Int.reducePow, gt_iff_lt, ge_iff_le, Int.reduceGT, Int.toNat_zero, Int.toNat_one, List.set_cons_zero, List.set_cons_succ, List.getD_cons_zero, List.getD_cons_succ, decide_eq_true_eq, decide_eq_false_iff_not,
  List.getElem?_cons_zero, List.getElem?_cons_succ, addD_int, iaddD_int, subD_int, ltD_int, leD_int, gtD_int, geD_int, eqD_int, neD_int, eqD_bool, asB_bool, lenD_list, lenD_tuple, tupleD_list, tupleD_tuple, listD_list, listD_tuple, resOf, mulD_r, mulD_l, modD_int, divD_int, powD_int, addD_list, addL_list, addD_tuple, cutD_toT, cutD_fromT, cutD_toL, cutD_fromL, cutO_toL, cutO_fromL, sortD_list, sortD_tuple, zipD_list, zipD_tuple, asLT_list, asLT_tuple, dFnO, dResO, dFnS, List.take_succ_cons, List.take_zero, List.drop_succ_cons, List.drop_zero, addD_T, iaddD_T, lenD_T, cutD_to, cutD_from, eqD_T, neD_T, isiD_str, dSl, dSome, dNo, asI_int, letter_small, letter_great, ev_andM, ev_orM, maxD_int, minD_int, absD_int, isiD_bool, getD'_ints, getD'_intsT, getD'_atC, getD'_atCT, rngD_one, rngD_two, isNotD_none, isD_none])
local macro_rules | `(tactic| walk_at "un") => `(tactic| simp (disch := first | omega | (simp only [List.length_cons, List.length_nil, List.length_map, List.length_append, List.length_take, List.length_drop] <;> omega) | fail) only [cell_ok, pick_ok, dFor, ev_forN, ev_forS, ev_lnx, ev_lct, ev_lbk, ev_lrt, ev_lxc, rngL_step, rngL_nil, range_0, range_1, range_2, range_3, range_4, range_5, startD, List.map_cons, List.map_nil, List.cons_append, List.nil_append, List.length_cons, List.length_nil, List.length_map, List.replicate, List.append_nil,
  ev_seq, ev_nx, ev_rt, ev_xc, ev_bk, ev_ct, ev_ss, ev_if, ev_ifT, ev_ifF, ev_stepN, lp_nx, lp_ct, lp_bk, lp_rt, lp_xc, wp_some,
  dSet, dSetO, dRet, dRetO, dRetVar, dNx, eS_ok, eS_mok, mbind_ok, mbind_mok, dTst, d2, d1, dVar, dVarS, dC, dCall, dCons, dNil, dFn, ev_ret, ev_exc, dAnd, dOr, dNot, dAndV, dOrV, dNotV, dTup, dLst, dApp, dSetIx, dAug, dYes, dIt, dItA,  wipeD, gN, gT, gCons', gNil', ev_appOk, ixN_ok, Option.bind_some,
  if_true, if_false, Bool.true_and, Bool.false_and, Bool.and_true, Bool.and_false, Bool.true_or, Bool.false_or, Bool.or_true, Bool.or_false, Bool.not_true, Bool.not_false, decide_true, decide_false, reduceIte, Bool.false_eq_true,
  Int.reduceToNat, Int.reduceAdd, Int.reduceSub, Int.reduceMul, Int.reduceMod, Int.reduceLT, Int.reduceLE, Int.reduceEq, Nat.reduceAdd, Nat.reduceSub, Nat.reduceEqDiff, Nat.reduceLT, Int.reducePow, gt_iff_lt, ge_iff_le, Int.reduceGT, Int.toNat_zero, Int.toNat_one, List.set_cons_zero, List.set_cons_succ, List.getD_cons_zero, List.getD_cons_succ, decide_eq_true_eq, decide_eq_false_iff_not,
  List.getElem?_cons_zero, List.getElem?_cons_succ, addD_int, iaddD_int, subD_int, ltD_int, leD_int, gtD_int, geD_int, eqD_int, neD_int, eqD_bool, asB_bool, lenD_list, lenD_tuple, tupleD_list, tupleD_tuple, listD_list, listD_tuple, resOf, mulD_r, mulD_l, modD_int, divD_int, powD_int, addD_list, addL_list, addD_tuple, cutD_toT, cutD_fromT, cutD_toL, cutD_fromL, cutO_toL, cutO_fromL, sortD_list, sortD_tuple, zipD_list, zipD_tuple, asLT_list, asLT_tuple, dFnO, dResO, dFnS, List.take_succ_cons, List.take_zero, List.drop_succ_cons, List.drop_zero, addD_T, iaddD_T, lenD_T, cutD_to, cutD_from, eqD_T, neD_T, isiD_str, dSl, dSome, dNo, asI_int, letter_small, letter_great, ev_andM, ev_orM, maxD_int, minD_int, absD_int, isiD_bool, getD'_ints, getD'_intsT, getD'_atC, getD'_atCT, rngD_one, rngD_two, isNotD_none, isD_none])
structure Tri where
  bad : List Tk
  good : List Tk
  form : AF
def tabN : List Tri := [
  ⟨[.c 48, .n, .x], [.n, .x], (.fl [(.x, .n)])⟩,
  ⟨[.c 45, .n, .x], [.n, .x], (.fl [(.x, .n)])⟩,
  ⟨[.c 43, .n, .x], [.n, .x], (.fl [(.x, .n)])⟩,
  ⟨[.n], [.n, .x], (.fl [(.x, .n)])⟩,
  ⟨[.n, .c 32, .x], [.n, .x], (.fl [(.x, .n)])⟩,
  ⟨[.n, .c 48], [.n, .x], (.fl [(.x, .n)])⟩,
  ⟨[.n, .c 42, .x], [.n, .x], (.fl [(.x, .n)])⟩,
  ⟨[.x, .n], [.n, .x], (.fl [(.x, .n)])⟩,
  ⟨[.n, .c 46, .x], [.n, .x], (.fl [(.x, .n)])⟩,
  ⟨[.n, .c 40, .x], [.n, .c 40, .x, .c 41], (.fl [(.x, .n)])⟩,
  ⟨[.n, .x, .c 41], [.n, .x], (.fl [(.x, .n)])⟩,
  ⟨[.c 49, .n], [.c 40, .n, .x, .c 41], (.fl [(.x, .n)])⟩,
  ⟨[.n, .x, .c 32, .c 43, .c 32], [.n, .x], (.fl [(.x, .n)])⟩,
  ⟨[.n, .x, .c 44], [.n, .x], (.fl [(.x, .n)])⟩]
def tabW : List Tri := [
  ⟨[.c 48, .x], [.x], (.fl [(.x, (.k 1))])⟩,
  ⟨[.c 97, .c 98, .c 99, .c 100, .c 101, .c 102, .c 103], [.c 97, .c 98, .c 99, .c 100, .c 101, .c 102], (.fl [((.lit [97, 98, 99, 100, 101, 102]), (.k 1))])⟩,
  ⟨[.c 48, .c 48], [.c 48], (.fl [])⟩,
  ⟨[.c 65, .c 66, .c 67, .c 68, .c 69, .c 70, .c 71], [.c 65, .c 66, .c 67, .c 68, .c 69, .c 70], (.th (.lit [65, 66, 67, 68, 69, 70]) [])⟩,
  ⟨[.x, .s], [.x], (.fl [(.x, (.k 1))])⟩,
  ⟨[], [.c 48], (.fl [])⟩,
  ⟨[.s, .x], [.s], (.th .s [])⟩,
  ⟨[.x, .c 40, .x, .c 41], [.x], (.fl [(.x, (.k 1))])⟩,
  ⟨[.c 97, .c 95, .c 98], [.c 97], (.fl [((.lit [97]), (.k 1))])⟩,
  ⟨[.c 48, .c 40, .x, .c 41], [.c 40, .c 48, .c 32, .c 43, .c 32, .x, .c 41], (.fl [(.x, (.k 1))])⟩,
  ⟨[.c 48, .s], [.s], (.th .s [])⟩,
  ⟨[.c 32], [.c 48], (.fl [])⟩,
  ⟨[.c 49, .c 48, .c 48, .c 48, .c 48, .c 48, .c 48, .c 48, .c 48, .c 48, .c 48, .c 48, .c 48, .c 48, .c 48, .c 48, .c 48, .c 48, .c 48, .x], [.c 57, .c 57, .c 57, .c 57, .c 57, .c 57, .c 57, .c 57, .c 57, .c 57, .c 57, .c 57, .c 57, .c 57, .c 57, .c 57, .c 57, .c 57, .x], (.fl [(.x, (.k 999999999999999999))])⟩,
  ⟨[.c 48, .c 49, .x], [.c 49, .x], (.fl [(.x, (.k 1))])⟩,
  ⟨[.x, .c 49], [.x], (.fl [(.x, (.k 1))])⟩,
  ⟨[.x, .c 32], [.x], (.fl [(.x, (.k 1))])⟩,
  ⟨[.c 32, .x], [.x], (.fl [(.x, (.k 1))])⟩,
  ⟨[.x, .c 10], [.x], (.fl [(.x, (.k 1))])⟩,
  ⟨[.c 40, .c 41], [.c 40, .c 48, .c 41], (.fl [])⟩,
  ⟨[.c 40, .x], [.c 40, .x, .c 41], (.fl [(.x, (.k 1))])⟩,
  ⟨[.x, .c 41], [.x], (.fl [(.x, (.k 1))])⟩,
  ⟨[.c 40, .c 40, .x, .c 41], [.c 40, .c 40, .x, .c 41, .c 41], (.fl [(.x, (.k 1))])⟩]
def tabP : List Tri := [
  ⟨[.x, .c 43, .x], [.x, .c 32, .c 43, .c 32, .x], (.fl [(.x, (.k 2))])⟩,
  ⟨[.x, .c 32, .c 43, .x], [.x, .c 32, .c 43, .c 32, .x], (.fl [(.x, (.k 2))])⟩,
  ⟨[.x, .c 43, .c 32, .x], [.x, .c 32, .c 43, .c 32, .x], (.fl [(.x, (.k 2))])⟩,
  ⟨[.x, .c 32, .c 32, .c 43, .c 32, .x], [.x, .c 32, .c 43, .c 32, .x], (.fl [(.x, (.k 2))])⟩,
  ⟨[.x, .c 32, .c 43, .c 32, .c 32, .x], [.x, .c 32, .c 43, .c 32, .x], (.fl [(.x, (.k 2))])⟩,
  ⟨[.x, .c 32, .c 43, .c 32, .c 43, .c 32, .x], [.x, .c 32, .c 43, .c 32, .x], (.fl [(.x, (.k 2))])⟩,
  ⟨[.x, .c 32, .c 45, .c 32, .x], [.x, .c 32, .c 43, .c 32, .x], (.fl [(.x, (.k 2))])⟩,
  ⟨[.x, .c 32, .x], [.x, .c 32, .c 43, .c 32, .x], (.fl [(.x, (.k 2))])⟩,
  ⟨[.x, .c 32, .c 43, .c 32, .x, .c 32, .c 43, .c 32], [.x, .c 32, .c 43, .c 32, .x], (.fl [(.x, (.k 2))])⟩,
  ⟨[.c 32, .c 43, .c 32, .x, .c 32, .c 43, .c 32, .x], [.x, .c 32, .c 43, .c 32, .x], (.fl [(.x, (.k 2))])⟩,
  ⟨[.c 40, .x, .c 44, .c 32, .x, .c 41], [.x, .c 32, .c 43, .c 32, .x], (.fl [(.x, (.k 2))])⟩,
  ⟨[.x, .c 44, .c 32, .x, .c 32], [.x, .c 32, .c 43, .c 32, .x], (.fl [(.x, (.k 2))])⟩,
  ⟨[.x, .c 32, .c 43, .c 32, .c 40, .x], [.x, .c 32, .c 43, .c 32, .x], (.fl [(.x, (.k 2))])⟩,
  ⟨[.x, .c 32, .c 42, .c 32, .x], [.x, .c 32, .c 43, .c 32, .x], (.fl [(.x, (.k 2))])⟩,
  ⟨[.c 50, .c 32, .x], [.x, .c 32, .c 43, .c 32, .x], (.fl [(.x, (.k 2))])⟩,
  ⟨[.x, .c 32, .c 43, .c 32, .c 48, .x], [.x, .c 32, .c 43, .c 32, .x], (.fl [(.x, (.k 2))])⟩]
def tabQ : List Tri := [
  ⟨[.s, .c 40, .c 48, .c 44, .x, .c 41], [.s, .c 40, .c 48, .c 44, .c 32, .x, .c 41], (.th .s [(.fl []), (.fl [(.x, (.k 1))])])⟩,
  ⟨[.s, .c 40, .c 48, .c 32, .c 44, .c 32, .x, .c 41], [.s, .c 40, .c 48, .c 44, .c 32, .x, .c 41], (.th .s [(.fl []), (.fl [(.x, (.k 1))])])⟩,
  ⟨[.s, .c 40, .c 48, .c 44, .c 32, .c 32, .x, .c 41], [.s, .c 40, .c 48, .c 44, .c 32, .x, .c 41], (.th .s [(.fl []), (.fl [(.x, (.k 1))])])⟩,
  ⟨[.s, .c 40, .c 32, .c 48, .c 44, .c 32, .x, .c 41], [.s, .c 40, .c 48, .c 44, .c 32, .x, .c 41], (.th .s [(.fl []), (.fl [(.x, (.k 1))])])⟩,
  ⟨[.s, .c 40, .c 48, .c 44, .c 32, .x, .c 32, .c 41], [.s, .c 40, .c 48, .c 44, .c 32, .x, .c 41], (.th .s [(.fl []), (.fl [(.x, (.k 1))])])⟩,
  ⟨[.s, .c 40, .c 44, .c 32, .x, .c 41], [.s, .c 40, .c 48, .c 44, .c 32, .x, .c 41], (.th .s [(.fl []), (.fl [(.x, (.k 1))])])⟩,
  ⟨[.s, .c 40, .c 48, .c 44, .c 32, .c 41], [.s, .c 40, .c 48, .c 44, .c 32, .x, .c 41], (.th .s [(.fl []), (.fl [(.x, (.k 1))])])⟩,
  ⟨[.s, .c 32, .c 40, .c 48, .c 44, .c 32, .x, .c 41], [.s, .c 40, .c 48, .c 44, .c 32, .x, .c 41], (.th .s [(.fl []), (.fl [(.x, (.k 1))])])⟩,
  ⟨[.s, .c 40, .c 48, .c 44, .c 32, .x], [.s, .c 40, .c 48, .c 44, .c 32, .x, .c 41], (.th .s [(.fl []), (.fl [(.x, (.k 1))])])⟩,
  ⟨[.s, .c 40, .c 48, .c 44, .c 32, .x, .c 41, .c 41], [.s, .c 40, .c 48, .c 44, .c 32, .x, .c 41], (.th .s [(.fl []), (.fl [(.x, (.k 1))])])⟩,
  ⟨[.s, .c 40, .c 48, .c 44, .c 32, .x, .c 41, .c 40, .x, .c 41], [.s, .c 40, .c 48, .c 44, .c 32, .x, .c 41], (.th .s [(.fl []), (.fl [(.x, (.k 1))])])⟩,
  ⟨[.s, .c 40, .c 48, .c 59, .c 32, .x, .c 41], [.s, .c 40, .c 48, .c 44, .c 32, .x, .c 41], (.th .s [(.fl []), (.fl [(.x, (.k 1))])])⟩,
  ⟨[.s, .c 40, .c 48, .c 32, .x, .c 41], [.s, .c 40, .c 48, .c 44, .c 32, .x, .c 41], (.th .s [(.fl []), (.fl [(.x, (.k 1))])])⟩,
  ⟨[.s, .c 91, .c 48, .c 44, .c 32, .x, .c 93], [.s, .c 40, .c 48, .c 44, .c 32, .x, .c 41], (.th .s [(.fl []), (.fl [(.x, (.k 1))])])⟩,
  ⟨[.s, .c 40, .c 40, .c 48, .c 44, .c 32, .x, .c 41, .c 41], [.s, .c 40, .c 48, .c 44, .c 32, .x, .c 41], (.th .s [(.fl []), (.fl [(.x, (.k 1))])])⟩,
  ⟨[.s, .c 40, .c 48, .c 44, .c 32, .c 48, .c 44, .c 32, .c 48, .c 44, .c 32, .x, .c 41], [.s, .c 40, .c 48, .c 44, .c 32, .x, .c 41], (.th .s [(.fl []), (.fl [(.x, (.k 1))])])⟩,
  ⟨[.s, .c 40, .c 41], [.s, .c 40, .c 48, .c 44, .c 32, .x, .c 41], (.th .s [(.fl []), (.fl [(.x, (.k 1))])])⟩,
  ⟨[.c 40, .c 48, .c 44, .c 32, .x, .c 41, .s], [.s, .c 40, .c 48, .c 44, .c 32, .x, .c 41], (.th .s [(.fl []), (.fl [(.x, (.k 1))])])⟩,
  ⟨[.s, .c 40, .c 48, .c 44, .c 32, .x, .c 44, .c 41], [.s, .c 40, .c 48, .c 44, .c 32, .x, .c 41], (.th .s [(.fl []), (.fl [(.x, (.k 1))])])⟩]
def rpt (l : List Tk) : Nat → List Tk
  | 0 => []
  | n + 1 => l ++ rpt l n
def nest : Nat → AF
  | 0 => .fl []
  | n + 1 => .th .s [nest n]
def tabZ : List Tri := [
  ⟨rpt [.c 40] 21 ++ [.x] ++ rpt [.c 41] 21, rpt [.c 40] 20 ++ [.x] ++ rpt [.c 41] 20, .fl [(.x, .k 1)]⟩,
  ⟨rpt [.s, .c 40] 21 ++ [.c 48] ++ rpt [.c 41] 21, rpt [.s, .c 40] 20 ++ [.c 48] ++ rpt [.c 41] 20, nest 20⟩,
  ⟨rpt [.c 97, .c 32, .c 43, .c 32] 149 ++ [.c 97, .c 98, .c 99, .c 100, .c 101], rpt [.c 97, .c 32, .c 43, .c 32] 149 ++ [.c 97, .c 98, .c 99, .c 100], .fl [(.lit [97], .k 149), (.lit [97, 98, 99, 100], .k 1)]⟩]
def wi : Nat → Tri → Tri
  | 0, t => ⟨[.c 40] ++ t.bad ++ [.c 41], [.c 40] ++ t.good ++ [.c 41], t.form⟩
  | 1, t => ⟨[.s] ++ [.c 40] ++ t.bad ++ [.c 41], [.s] ++ [.c 40] ++ t.good ++ [.c 41], .th .s [t.form]⟩
  | 2, t => ⟨[.s] ++ [.c 40, .c 48, .c 44, .c 32] ++ t.bad ++ [.c 41], [.s] ++ [.c 40, .c 48, .c 44, .c 32] ++ t.good ++ [.c 41], .th .s [.fl [], t.form]⟩
  | 3, t => ⟨[.s] ++ [.c 40] ++ t.bad ++ [.c 44, .c 32] ++ [.x] ++ [.c 41], [.s] ++ [.c 40] ++ t.good ++ [.c 44, .c 32] ++ [.x] ++ [.c 41], .th .s [t.form, .fl [(.x, .k 1)]]⟩
  | _, t => t
def dpF : Nat → AF → Bool
  | _, .fl _ => true
  | 0, .th _ _ => false
  | n + 1, .th _ ps => ps.all (dpF n)
def Tri.Ok (t : Tri) : Prop := aRead t.bad = some none ∧ aRead t.good = some (some t.form) ∧ dpF 22 t.form = true
theorem tris_ok {l : List Tri} {f : Tri → Tri} (h1 : (l.map fun t => aRead (f t).bad) = l.map fun _ => some none) (h2 : (l.map fun t => aRead (f t).good) = l.map fun t => some (some (f t).form)) (h3 : (l.map fun t => dpF 22 (f t).form) = l.map fun _ => true) : ∀ t ∈ l, (f t).Ok := fun t ht => ⟨List.map_inj_left.mp h1 t ht, List.map_inj_left.mp h2 t ht, List.map_inj_left.mp h3 t ht⟩
theorem tabN0 : ∀ t ∈ tabN, (wi 0 t).Ok := tris_ok (by kernel_rfl) (by kernel_rfl) (by kernel_rfl)
theorem tabN1 : ∀ t ∈ tabN, (wi 1 t).Ok := tris_ok (by kernel_rfl) (by kernel_rfl) (by kernel_rfl)
theorem tabN2 : ∀ t ∈ tabN, (wi 2 t).Ok := tris_ok (by kernel_rfl) (by kernel_rfl) (by kernel_rfl)
theorem tabN3 : ∀ t ∈ tabN, (wi 3 t).Ok := tris_ok (by kernel_rfl) (by kernel_rfl) (by kernel_rfl)
theorem tabN4 : ∀ t ∈ tabN, (wi 4 t).Ok := tris_ok (by kernel_rfl) (by kernel_rfl) (by kernel_rfl)
theorem tabW0 : ∀ t ∈ tabW, (wi 0 t).Ok := tris_ok (by kernel_rfl) (by kernel_rfl) (by kernel_rfl)
theorem tabW1 : ∀ t ∈ tabW, (wi 1 t).Ok := tris_ok (by kernel_rfl) (by kernel_rfl) (by kernel_rfl)
theorem tabW2 : ∀ t ∈ tabW, (wi 2 t).Ok := tris_ok (by kernel_rfl) (by kernel_rfl) (by kernel_rfl)
theorem tabW3 : ∀ t ∈ tabW, (wi 3 t).Ok := tris_ok (by kernel_rfl) (by kernel_rfl) (by kernel_rfl)
theorem tabW4 : ∀ t ∈ tabW, (wi 4 t).Ok := tris_ok (by kernel_rfl) (by kernel_rfl) (by kernel_rfl)
theorem tabP0 : ∀ t ∈ tabP, (wi 0 t).Ok := tris_ok (by kernel_rfl) (by kernel_rfl) (by kernel_rfl)
theorem tabP1 : ∀ t ∈ tabP, (wi 1 t).Ok := tris_ok (by kernel_rfl) (by kernel_rfl) (by kernel_rfl)
theorem tabP2 : ∀ t ∈ tabP, (wi 2 t).Ok := tris_ok (by kernel_rfl) (by kernel_rfl) (by kernel_rfl)
theorem tabP3 : ∀ t ∈ tabP, (wi 3 t).Ok := tris_ok (by kernel_rfl) (by kernel_rfl) (by kernel_rfl)
theorem tabP4 : ∀ t ∈ tabP, (wi 4 t).Ok := tris_ok (by kernel_rfl) (by kernel_rfl) (by kernel_rfl)
theorem tabQ0 : ∀ t ∈ tabQ, (wi 0 t).Ok := tris_ok (by kernel_rfl) (by kernel_rfl) (by kernel_rfl)
theorem tabQ1 : ∀ t ∈ tabQ, (wi 1 t).Ok := tris_ok (by kernel_rfl) (by kernel_rfl) (by kernel_rfl)
theorem tabQ2 : ∀ t ∈ tabQ, (wi 2 t).Ok := tris_ok (by kernel_rfl) (by kernel_rfl) (by kernel_rfl)
theorem tabQ3 : ∀ t ∈ tabQ, (wi 3 t).Ok := tris_ok (by kernel_rfl) (by kernel_rfl) (by kernel_rfl)
theorem tabQ4 : ∀ t ∈ tabQ, (wi 4 t).Ok := tris_ok (by kernel_rfl) (by kernel_rfl) (by kernel_rfl)
theorem tabZ_ok : ∀ t ∈ tabZ, (id t).Ok := tris_ok (by kernel_rfl) (by kernel_rfl) (by kernel_rfl)
theorem tabN_ok {t : Tri} (h : t ∈ tabN) : ∀ v : Nat, (wi v t).Ok
  | 0 => tabN0 t h
  | 1 => tabN1 t h
  | 2 => tabN2 t h
  | 3 => tabN3 t h
  | _ + 4 => tabN4 t h
theorem tabW_ok {t : Tri} (h : t ∈ tabW) : ∀ v : Nat, (wi v t).Ok
  | 0 => tabW0 t h
  | 1 => tabW1 t h
  | 2 => tabW2 t h
  | 3 => tabW3 t h
  | _ + 4 => tabW4 t h
theorem tabP_ok {t : Tri} (h : t ∈ tabP) : ∀ v : Nat, (wi v t).Ok
  | 0 => tabP0 t h
  | 1 => tabP1 t h
  | 2 => tabP2 t h
  | 3 => tabP3 t h
  | _ + 4 => tabP4 t h
theorem tabQ_ok {t : Tri} (h : t ∈ tabQ) : ∀ v : Nat, (wi v t).Ok
  | 0 => tabQ0 t h
  | 1 => tabQ1 t h
  | 2 => tabQ2 t h
  | 3 => tabQ3 t h
  | _ + 4 => tabQ4 t h
end K14

namespace K14
open PySem PySem.Spec PyProof.Rows L2 DL
local macro_rules | `(tactic| walk_at "ev") => `(tactic| simp (disch := first | omega | (simp only [List.length_cons, List.length_nil, List.length_map, List.length_append, List.length_take, List.length_drop] <;> omega) | fail) only [ startD, List.map_cons, List.map_nil, List.cons_append, List.nil_append, List.length_cons, List.length_nil, List.length_map, List.replicate, List.append_nil,
  ev_seq, ev_nx, ev_rt, ev_xc, ev_bk, ev_ct, ev_ss, ev_if, ev_ifT, ev_ifF, ev_stepN, lp_nx, lp_ct, lp_bk, lp_rt, lp_xc, wp_some,
  dSet, dSetO, dRet, dRetO, dRetVar, dNx, eS_ok, eS_mok, mbind_ok, mbind_mok, dTst, d2, d1, dVar, dVarS, dC, dCall, dCons, dNil, dFn, ev_ret, ev_exc, dAnd, dOr, dNot, dAndV, dOrV, dNotV, dTup, dLst, dApp, dSetIx, dAug, dYes, dIt, dItA,  wipeD, gN, gT, gCons', gNil', ev_appOk, ixN_ok, Option.bind_some,
  if_true, if_false, Bool.true_and, Bool.false_and, Bool.and_true, Bool.and_false, Bool.true_or, Bool.false_or, Bool.or_true, Bool.or_false, Bool.not_true, Bool.not_false, decide_true, decide_false, reduceIte, Bool.false_eq_true,
  Int.reduceToNat, Int.reduceAdd, Int.reduceSub, Int.reduceMul, Int.reduceMod, Int.reduceLT, Int.reduceLE, Int.reduceEq, Nat.reduceAdd, Nat.reduceSub, Nat.reduceEqDiff, Nat.reduceLT, Int.reducePow, gt_iff_lt, ge_iff_le, Int.reduceGT, Int.toNat_zero, Int.toNat_one, List.set_cons_zero, List.set_cons_succ, List.getD_cons_zero, List.getD_cons_succ, decide_eq_true_eq, decide_eq_false_iff_not,
  List.getElem?_cons_zero, List.getElem?_cons_succ, addD_int, iaddD_int, subD_int, ltD_int, leD_int, gtD_int, geD_int, eqD_int, neD_int, eqD_bool, asB_bool, lenD_list, lenD_tuple, tupleD_list, tupleD_tuple, listD_list, listD_tuple, resOf, mulD_r, mulD_l, modD_int, divD_int, powD_int, addD_list, addL_list, addD_tuple, cutD_toT, cutD_fromT, cutD_toL, cutD_fromL, cutO_toL, cutO_fromL, sortD_list, sortD_tuple, zipD_list, zipD_tuple, asLT_list, asLT_tuple, dFnO, dResO, dFnS, List.take_succ_cons, List.take_zero, List.drop_succ_cons, List.drop_zero, addD_T, iaddD_T, lenD_T, cutD_to, cutD_from, eqD_T, neD_T, isiD_str, dSl, dSome, dNo, asI_int, letter_small, letter_great, ev_andM, ev_orM, maxD_int, minD_int, absD_int, isiD_bool, getD'_ints, getD'_intsT, getD'_atC, getD'_atCT, rngD_one, rngD_two, isNotD_none, isD_none])
local macro_rules | `(tactic| walk_at "un") => `(tactic| simp (disch := first | omega | (simp only [List.length_cons, List.length_nil, List.length_map, List.length_append, List.length_take, List.length_drop] <;> omega) | fail) only [ dFor, ev_forN, ev_forS, ev_lnx, ev_lct, ev_lbk, ev_lrt, ev_lxc, rngL_step, rngL_nil, range_0, range_1, range_2, range_3, range_4, range_5, startD, List.map_cons, List.map_nil, List.cons_append, List.nil_append, List.length_cons, List.length_nil, List.length_map, List.replicate, List.append_nil,
  ev_seq, ev_nx, ev_rt, ev_xc, ev_bk, ev_ct, ev_ss, ev_if, ev_ifT, ev_ifF, ev_stepN, lp_nx, lp_ct, lp_bk, lp_rt, lp_xc, wp_some,
  dSet, dSetO, dRet, dRetO, dRetVar, dNx, eS_ok, eS_mok, mbind_ok, mbind_mok, dTst, d2, d1, dVar, dVarS, dC, dCall, dCons, dNil, dFn, ev_ret, ev_exc, dAnd, dOr, dNot, dAndV, dOrV, dNotV, dTup, dLst, dApp, dSetIx, dAug, dYes, dIt, dItA,  wipeD, gN, gT, gCons', gNil', ev_appOk, ixN_ok, Option.bind_some,
  if_true, if_false, Bool.true_and, Bool.false_and, Bool.and_true, Bool.and_false, Bool.true_or, Bool.false_or, Bool.or_true, Bool.or_false, Bool.not_true, Bool.not_false, decide_true, decide_false, reduceIte, Bool.false_eq_true,
  Int.reduceToNat, Int.reduceAdd, Int.reduceSub, Int.reduceMul, Int.reduceMod, Int.reduceLT, Int.reduceLE, Int.reduceEq, Nat.reduceAdd, Nat.reduceSub, Nat.reduceEqDiff, Nat.reduceLT, Int.reducePow, gt_iff_lt, ge_iff_le, Int.reduceGT, Int.toNat_zero, Int.toNat_one, List.set_cons_zero, List.set_cons_succ, List.getD_cons_zero, List.getD_cons_succ, decide_eq_true_eq, decide_eq_false_iff_not,
  List.getElem?_cons_zero, List.getElem?_cons_succ, addD_int, iaddD_int, subD_int, ltD_int, leD_int, gtD_int, geD_int, eqD_int, neD_int, eqD_bool, asB_bool, lenD_list, lenD_tuple, tupleD_list, tupleD_tuple, listD_list, listD_tuple, resOf, mulD_r, mulD_l, modD_int, divD_int, powD_int, addD_list, addL_list, addD_tuple, cutD_toT, cutD_fromT, cutD_toL, cutD_fromL, cutO_toL, cutO_fromL, sortD_list, sortD_tuple, zipD_list, zipD_tuple, asLT_list, asLT_tuple, dFnO, dResO, dFnS, List.take_succ_cons, List.take_zero, List.drop_succ_cons, List.drop_zero, addD_T, iaddD_T, lenD_T, cutD_to, cutD_from, eqD_T, neD_T, isiD_str, dSl, dSome, dNo, asI_int, letter_small, letter_great, ev_andM, ev_orM, maxD_int, minD_int, absD_int, isiD_bool, getD'_ints, getD'_intsT, getD'_atC, getD'_atCT, rngD_one, rngD_two, isNotD_none, isD_none])
theorem k0 (w : Wds) : (Str.ofString "0" : Str) = T (fl w [.c 48]) := rfl
theorem k1 (w : Wds) : (Str.ofString "-" : Str) = T (fl w [.c 45]) := rfl
theorem k2 (w : Wds) : (Str.ofString "+" : Str) = T (fl w [.c 43]) := rfl
theorem k3 (w : Wds) : (Str.ofString " " : Str) = T (fl w [.c 32]) := rfl
theorem k4 (w : Wds) : (Str.ofString "*" : Str) = T (fl w [.c 42]) := rfl
theorem k5 (w : Wds) : (Str.ofString "." : Str) = T (fl w [.c 46]) := rfl
theorem k6 (w : Wds) : (Str.ofString "(" : Str) = T (fl w [.c 40]) := rfl
theorem k7 (w : Wds) : (Str.ofString ")" : Str) = T (fl w [.c 41]) := rfl
theorem k8 (w : Wds) : (Str.ofString "1" : Str) = T (fl w [.c 49]) := rfl
theorem k9 (w : Wds) : (Str.ofString " + " : Str) = T (fl w [.c 32, .c 43, .c 32]) := rfl
theorem k10 (w : Wds) : (Str.ofString "," : Str) = T (fl w [.c 44]) := rfl
theorem k11 (w : Wds) : (Str.ofString "abcdefg" : Str) = T (fl w [.c 97, .c 98, .c 99, .c 100, .c 101, .c 102, .c 103]) := rfl
theorem k12 (w : Wds) : (Str.ofString "abcdef" : Str) = T (fl w [.c 97, .c 98, .c 99, .c 100, .c 101, .c 102]) := rfl
theorem k13 (w : Wds) : (Str.ofString "00" : Str) = T (fl w [.c 48, .c 48]) := rfl
theorem k14 (w : Wds) : (Str.ofString "ABCDEFG" : Str) = T (fl w [.c 65, .c 66, .c 67, .c 68, .c 69, .c 70, .c 71]) := rfl
theorem k15 (w : Wds) : (Str.ofString "ABCDEF" : Str) = T (fl w [.c 65, .c 66, .c 67, .c 68, .c 69, .c 70]) := rfl
theorem k16 (w : Wds) : (Str.ofString "" : Str) = T (fl w []) := rfl
theorem k17 (w : Wds) : (Str.ofString "a_b" : Str) = T (fl w [.c 97, .c 95, .c 98]) := rfl
theorem k18 (w : Wds) : (Str.ofString "a" : Str) = T (fl w [.c 97]) := rfl
theorem k19 (w : Wds) : (Str.ofString "0(" : Str) = T (fl w [.c 48, .c 40]) := rfl
theorem k20 (w : Wds) : (Str.ofString "(0 + " : Str) = T (fl w [.c 40, .c 48, .c 32, .c 43, .c 32]) := rfl
theorem k21 (w : Wds) : (Str.ofString "01" : Str) = T (fl w [.c 48, .c 49]) := rfl
theorem k22 (w : Wds) : (Str.ofString "\n" : Str) = T (fl w [.c 10]) := rfl
theorem k23 (w : Wds) : (Str.ofString "()" : Str) = T (fl w [.c 40, .c 41]) := rfl
theorem k24 (w : Wds) : (Str.ofString "(0)" : Str) = T (fl w [.c 40, .c 48, .c 41]) := rfl
theorem k25 (w : Wds) : (Str.ofString "((" : Str) = T (fl w [.c 40, .c 40]) := rfl
theorem k26 (w : Wds) : (Str.ofString "))" : Str) = T (fl w [.c 41, .c 41]) := rfl
theorem k27 (w : Wds) : (Str.ofString " +" : Str) = T (fl w [.c 32, .c 43]) := rfl
theorem k28 (w : Wds) : (Str.ofString "+ " : Str) = T (fl w [.c 43, .c 32]) := rfl
theorem k29 (w : Wds) : (Str.ofString "  + " : Str) = T (fl w [.c 32, .c 32, .c 43, .c 32]) := rfl
theorem k30 (w : Wds) : (Str.ofString " +  " : Str) = T (fl w [.c 32, .c 43, .c 32, .c 32]) := rfl
theorem k31 (w : Wds) : (Str.ofString " + + " : Str) = T (fl w [.c 32, .c 43, .c 32, .c 43, .c 32]) := rfl
theorem k32 (w : Wds) : (Str.ofString " - " : Str) = T (fl w [.c 32, .c 45, .c 32]) := rfl
theorem k33 (w : Wds) : (Str.ofString ", " : Str) = T (fl w [.c 44, .c 32]) := rfl
theorem k34 (w : Wds) : (Str.ofString " + (" : Str) = T (fl w [.c 32, .c 43, .c 32, .c 40]) := rfl
theorem k35 (w : Wds) : (Str.ofString " * " : Str) = T (fl w [.c 32, .c 42, .c 32]) := rfl
theorem k36 (w : Wds) : (Str.ofString "2 " : Str) = T (fl w [.c 50, .c 32]) := rfl
theorem k37 (w : Wds) : (Str.ofString " + 0" : Str) = T (fl w [.c 32, .c 43, .c 32, .c 48]) := rfl
theorem k38 (w : Wds) : (Str.ofString "(0, " : Str) = T (fl w [.c 40, .c 48, .c 44, .c 32]) := rfl
theorem k39 (w : Wds) : (Str.ofString "(0," : Str) = T (fl w [.c 40, .c 48, .c 44]) := rfl
theorem k40 (w : Wds) : (Str.ofString "(0 , " : Str) = T (fl w [.c 40, .c 48, .c 32, .c 44, .c 32]) := rfl
theorem k41 (w : Wds) : (Str.ofString "(0,  " : Str) = T (fl w [.c 40, .c 48, .c 44, .c 32, .c 32]) := rfl
theorem k42 (w : Wds) : (Str.ofString "( 0, " : Str) = T (fl w [.c 40, .c 32, .c 48, .c 44, .c 32]) := rfl
theorem k43 (w : Wds) : (Str.ofString " )" : Str) = T (fl w [.c 32, .c 41]) := rfl
theorem k44 (w : Wds) : (Str.ofString "(, " : Str) = T (fl w [.c 40, .c 44, .c 32]) := rfl
theorem k45 (w : Wds) : (Str.ofString "(0, )" : Str) = T (fl w [.c 40, .c 48, .c 44, .c 32, .c 41]) := rfl
theorem k46 (w : Wds) : (Str.ofString " (0, " : Str) = T (fl w [.c 32, .c 40, .c 48, .c 44, .c 32]) := rfl
theorem k47 (w : Wds) : (Str.ofString ")(" : Str) = T (fl w [.c 41, .c 40]) := rfl
theorem k48 (w : Wds) : (Str.ofString "(0; " : Str) = T (fl w [.c 40, .c 48, .c 59, .c 32]) := rfl
theorem k49 (w : Wds) : (Str.ofString "(0 " : Str) = T (fl w [.c 40, .c 48, .c 32]) := rfl
theorem k50 (w : Wds) : (Str.ofString "[0, " : Str) = T (fl w [.c 91, .c 48, .c 44, .c 32]) := rfl
theorem k51 (w : Wds) : (Str.ofString "]" : Str) = T (fl w [.c 93]) := rfl
theorem k52 (w : Wds) : (Str.ofString "((0, " : Str) = T (fl w [.c 40, .c 40, .c 48, .c 44, .c 32]) := rfl
theorem k53 (w : Wds) : (Str.ofString "(0, 0, 0, " : Str) = T (fl w [.c 40, .c 48, .c 44, .c 32, .c 48, .c 44, .c 32, .c 48, .c 44, .c 32]) := rfl
theorem k54 (w : Wds) : (Str.ofString ",)" : Str) = T (fl w [.c 44, .c 41]) := rfl
theorem k55 (w : Wds) : (Str.ofString "a + " : Str) = T (fl w [.c 97, .c 32, .c 43, .c 32]) := rfl
theorem k56 (w : Wds) : (Str.ofString "abcde" : Str) = T (fl w [.c 97, .c 98, .c 99, .c 100, .c 101]) := rfl
theorem k57 (w : Wds) : (Str.ofString "abcd" : Str) = T (fl w [.c 97, .c 98, .c 99, .c 100]) := rfl
theorem addD_txt {w : Wds} (h : w.Ok) (a b : List Tk) (hc : cap a + cap b ≤ 16777216) : addD (.str (T (fl w a))) (.str (T (fl w b))) = mok (.str (T (fl w (a ++ b)))) := by
  have h1 := cap_ok h a
  have h2 := cap_ok h b
  rw [fl_app]
  exact addD_T (by omega)
theorem any_eq (a : Str) (c : Int) : G_l_any [.str a, .int c] = some (.ret false (.tuple [.tuple [.tuple [.str "any", .str a], .int c]])) := rfl
theorem of_eq (a : Str) (ds : List D) : G_l_of [.str a, .tuple ds] = some (.ret false (.tuple [.tuple [.tuple [.str "of", .str a, .tuple ds], .int 1]])) := rfl
theorem any_x (w : Wds) (c : AC) : conc w (.fl [(.x, c)]) = .tuple [.tuple [.tuple [.str "any", .str (T (fl w [.x]))], .int (cc w c)]] := by
  rw [conc]
  have : fl w [Tk.x] = w.x := by simp [fl, fl1]
  rw [this]
  rfl
theorem any_l (w : Wds) (l : List Nat) (c : AC) : conc w (.fl [(.lit l, c)]) = .tuple [.tuple [.tuple [.str "any", .str (T l)], .int (cc w c)]] := by
  rw [conc]
  rfl
theorem of_s (w : Wds) (fs : List AF) : conc w (.th .s fs) = .tuple [.tuple [.tuple [.str "of", .str (T (fl w [.s])), .tuple (concs w fs)], .int 1]] := by
  rw [conc]
  have : fl w [Tk.s] = w.s := by simp [fl, fl1]
  rw [this]
  rfl
theorem of_l (w : Wds) (l : List Nat) (fs : List AF) : conc w (.th (.lit l) fs) = .tuple [.tuple [.tuple [.str "of", .str (T l), .tuple (concs w fs)], .int 1]] := by
  rw [conc]
  rfl
theorem nil_c (w : Wds) : conc w (.fl []) = .tuple [] := by
  rw [conc]
  rfl
theorem fl_lit (w : Wds) : ∀ l : List Nat, fl w (l.map Tk.c) = l
  | [] => rfl
  | c :: l => by rw [List.map_cons, fl_cons, fl_lit w l]; rfl
def tr2 (w : Wds) (t : Tri) : D := .tuple [.str (T (fl w t.bad)), .str (T (fl w t.good))]
def tr3 (w : Wds) (t : Tri) : List D := [.str (T (fl w t.bad)), .str (T (fl w t.good)), conc w t.form]
theorem at_mod {l : List Tri} {f : Tri → D} (hl : 0 < l.length) {i : Int} (hi : 0 ≤ i) : ∃ t ∈ l, getD' (.list (l.map f)) (.int (i % (l.length : Int))) = mok (f t) := by
  have h1 : 0 ≤ i % (l.length : Int) := Int.emod_nonneg _ (by omega)
  have h2 : i % (l.length : Int) < l.length := Int.emod_lt_of_pos _ (by omega)
  obtain ⟨j, hj⟩ : ∃ j : Nat, i % (l.length : Int) = j := ⟨(i % (l.length : Int)).toNat, by omega⟩
  rw [hj] at h2 ⊢
  have h3 : j < l.length := by omega
  refine ⟨l[j], List.getElem_mem h3, ?_⟩
  refine getD'_list (atI_nat' (by omega) ?_)
  rw [Int.toNat_natCast, List.getElem?_map, List.getElem?_eq_getElem h3]
  rfl
theorem cap_app (b : List Tk) : ∀ a : List Tk, cap (a ++ b) = cap a + cap b
  | [] => by rw [List.nil_append, cap]; omega
  | t :: a => by rw [List.cons_append, cap, cap, cap_app b a]; omega
theorem tabW_cap : ∀ t ∈ tabW, cap t.bad ≤ 600 ∧ cap t.good ≤ 600 := by unfold tabW; decide
theorem tabN_cap : ∀ t ∈ tabN, cap t.bad ≤ 600 ∧ cap t.good ≤ 600 := by unfold tabN; decide
theorem tabP_cap : ∀ t ∈ tabP, cap t.bad ≤ 600 ∧ cap t.good ≤ 600 := by unfold tabP; decide
theorem tabQ_cap : ∀ t ∈ tabQ, cap t.bad ≤ 600 ∧ cap t.good ≤ 600 := by unfold tabQ; decide
theorem tabP_same : ∀ t ∈ tabP, (t.good, t.form) = ([.x, .c 32, .c 43, .c 32, .x], .fl [(.x, .k 2)]) := List.map_inj_left.mp (show tabP.map (fun t => (t.good, t.form)) = tabP.map fun _ => _ from rfl)
theorem tabQ_same : ∀ t ∈ tabQ, (t.good, t.form) = ([.s, .c 40, .c 48, .c 44, .c 32, .x, .c 41], .th .s [.fl [], .fl [(.x, .k 1)]]) := List.map_inj_left.mp (show tabQ.map (fun t => (t.good, t.form)) = tabQ.map fun _ => _ from rfl)
theorem tabN_same : ∀ t ∈ tabN, t.form = .fl [(.x, .n)] := List.map_inj_left.mp (show tabN.map (fun t => t.form) = tabN.map fun _ => _ from rfl)
theorem by_plus_ok {w : Wds} (h : w.Ok) {i : Int} (hi : 0 ≤ i) : ∃ t ∈ tabP, G_l_by_plus [.int i, .str (T (fl w [.x])), .str (T (fl w [.s]))] = some (.ret true (.list (tr3 w t))) := by
  obtain ⟨t, ht, hg⟩ := at_mod (l := tabP) (f := fun t => .str (T (fl w t.bad))) (by decide) hi
  refine ⟨t, ht, ?_⟩
  obtain ⟨g1, g2⟩ := Prod.mk.inj (tabP_same t ht)
  have h1 : g_l_by_plus (startD 4 [.int i, .str (T (fl w [.x])), .str (T (fl w [.s]))]) = some (.rt true (.list (tr3 w t))) := by
    unfold g_l_by_plus
    have e0 : startD 4 [.int i, .str (T (fl w [.x])), .str (T (fl w [.s]))] = [some (.fz (.int i)), some (.fz (.str (T (fl w [.x])))), some (.fz (.str (T (fl w [.s])))), none] := rfl
    rw [e0]
    simp (disch := first | decide | (simp only [List.length_cons, List.length_nil] <;> decide)) only [ev_seq, ev_nx, dSet, eS_mok, dLst, dTup, dCons, dNil, d2, dVar, dVarS, dC, dFn, dCall, List.getElem?_cons_zero, List.getElem?_cons_succ, List.set_cons_zero, List.set_cons_succ, mbind_mok, addD_txt h, addD_list, List.cons_append, List.nil_append, List.append_nil, any_eq, of_eq, ev_ret, k0 w, k1 w, k2 w, k3 w, k4 w, k5 w, k6 w, k7 w, k8 w, k9 w, k10 w, k11 w, k12 w, k13 w, k14 w, k15 w, k16 w, k17 w, k18 w, k19 w, k20 w, k21 w, k22 w, k23 w, k24 w, k25 w, k26 w, k27 w, k28 w, k29 w, k30 w, k31 w, k32 w, k33 w, k34 w, k35 w, k36 w, k37 w, k38 w, k39 w, k40 w, k41 w, k42 w, k43 w, k44 w, k45 w, k46 w, k47 w, k48 w, k49 w, k50 w, k51 w, k52 w, k53 w, k54 w, k55 w, k56 w, k57 w]
    have hm : modD (.int i) (.int (16 : Int)) = mok (.int (i % 16)) := modD_int (by omega)
    have hg : getD' (.list (tabP.map fun t => .str (T (fl w t.bad)))) (.int (i % 16)) = _ := hg
    show dRetO _ [some (.fz (.int i)), some (.fz (.str (T (fl w [.x])))), some (.fz (.str (T (fl w [.s])))), some (.fz (.list (tabP.map fun t => .str (T (fl w t.bad)))))] = _
    have hln : lenD [.list (tabP.map fun t => PyData.str (T (fl w t.bad)))] = mok (.int 16) := rfl
    unfold dRetO tr3
    rw [g1, g2, any_x]
    simp only [ev_seq, ev_nx, eS_mok, dRetO, dLst, dTup, dCons, dNil, d2, dVar, dVarS, dC, dFn, dCall, List.getElem?_cons_zero, List.getElem?_cons_succ, List.set_cons_zero, List.set_cons_succ, mbind_mok, hln, hm, hg, any_eq, List.cons_append, List.nil_append, List.append_nil, ev_ret, addD_txt h [.x] [.c 32, .c 43, .c 32] (by decide), addD_txt h [.x, .c 32, .c 43, .c 32] [.x] (by decide), k9 w]
    rfl
  exact congrArg resOf h1
theorem by_parts_ok {w : Wds} (h : w.Ok) {i : Int} (hi : 0 ≤ i) : ∃ t ∈ tabQ, G_l_by_parts [.int i, .str (T (fl w [.x])), .str (T (fl w [.s]))] = some (.ret true (.list (tr3 w t))) := by
  obtain ⟨t, ht, hg⟩ := at_mod (l := tabQ) (f := fun t => .str (T (fl w t.bad))) (by decide) hi
  refine ⟨t, ht, ?_⟩
  obtain ⟨g1, g2⟩ := Prod.mk.inj (tabQ_same t ht)
  have h1 : g_l_by_parts (startD 5 [.int i, .str (T (fl w [.x])), .str (T (fl w [.s]))]) = some (.rt true (.list (tr3 w t))) := by
    unfold g_l_by_parts
    have e0 : startD 5 [.int i, .str (T (fl w [.x])), .str (T (fl w [.s]))] = [some (.fz (.int i)), some (.fz (.str (T (fl w [.x])))), some (.fz (.str (T (fl w [.s])))), none, none] := rfl
    rw [e0]
    simp (disch := first | decide | (simp only [List.length_cons, List.length_nil] <;> decide)) only [ev_seq, ev_nx, dSet, eS_mok, dLst, dTup, dCons, dNil, d2, dVar, dVarS, dC, dFn, dCall, List.getElem?_cons_zero, List.getElem?_cons_succ, List.set_cons_zero, List.set_cons_succ, mbind_mok, addD_txt h, addD_list, List.cons_append, List.nil_append, List.append_nil, any_eq, of_eq, ev_ret, k0 w, k1 w, k2 w, k3 w, k4 w, k5 w, k6 w, k7 w, k8 w, k9 w, k10 w, k11 w, k12 w, k13 w, k14 w, k15 w, k16 w, k17 w, k18 w, k19 w, k20 w, k21 w, k22 w, k23 w, k24 w, k25 w, k26 w, k27 w, k28 w, k29 w, k30 w, k31 w, k32 w, k33 w, k34 w, k35 w, k36 w, k37 w, k38 w, k39 w, k40 w, k41 w, k42 w, k43 w, k44 w, k45 w, k46 w, k47 w, k48 w, k49 w, k50 w, k51 w, k52 w, k53 w, k54 w, k55 w, k56 w, k57 w]
    have hm : modD (.int i) (.int (19 : Int)) = mok (.int (i % 19)) := modD_int (by omega)
    have hg : getD' (.list (tabQ.map fun t => .str (T (fl w t.bad)))) (.int (i % 19)) = _ := hg
    have e1 : conc w (.th .s [.fl [], .fl [(.x, .k 1)]]) = PyData.tuple [PyData.tuple [PyData.tuple [PyData.str (Str.ofString "of"), PyData.str (T (fl w [Tk.s])), PyData.tuple [PyData.tuple [], PyData.tuple [PyData.tuple [PyData.tuple [PyData.str (Str.ofString "any"), PyData.str (T (fl w [Tk.x]))], PyData.int 1]]]], PyData.int 1]] := by
      rw [of_s, concs, concs, concs, nil_c, any_x]
      rfl
    show dRetO _ [some (.fz (.int i)), some (.fz (.str (T (fl w [.x])))), some (.fz (.str (T (fl w [.s])))), _, some (.fz (.list (tabQ.map fun t => .str (T (fl w t.bad)))))] = _
    have hln : lenD [.list (tabQ.map fun t => PyData.str (T (fl w t.bad)))] = mok (.int 19) := rfl
    unfold dRetO tr3
    rw [g1, g2, e1]
    simp only [ev_seq, ev_nx, eS_mok, dRetO, dLst, dTup, dCons, dNil, d2, dVar, dVarS, dC, dFn, dCall, List.getElem?_cons_zero, List.getElem?_cons_succ, List.set_cons_zero, List.set_cons_succ, mbind_mok, hln, hm, hg, any_eq, List.cons_append, List.nil_append, List.append_nil, ev_ret, addD_txt h [.x] [.c 32, .c 43, .c 32] (by decide), addD_txt h [.x, .c 32, .c 43, .c 32] [.x] (by decide), k9 w]
    rfl
  exact congrArg resOf h1
theorem by_number_ok {w : Wds} (h : w.Ok) (hs : strD [.int w.v] = mok (.str (T (fl w [.n])))) {i : Int} (hi : 0 ≤ i) : ∃ t ∈ tabN, G_l_by_number [.int i, .str (T (fl w [.x])), .str (T (fl w [.s])), .int w.v] = some (.ret true (.list (tr3 w t))) := by
  obtain ⟨t, ht, hg⟩ := at_mod (l := tabN) (f := tr2 w) (by decide) hi
  refine ⟨t, ht, ?_⟩
  have g2 := tabN_same t ht
  have hmul : mulSD (.str (T (fl w [.x]))) (.int 0) = mok (.str (T (fl w []))) := by
    have := cap_ok h [.x]
    show (if (0 : Int).natAbs ≤ 1000 ∧ (T (fl w [.x])).length ≤ 1000 then mok (PyData.str (repS (T (fl w [.x])) 0)) else none) = _
    rw [if_pos ⟨by decide, by rw [T_len]; exact Nat.le_trans this (by decide)⟩]
    rfl
  have h1 : g_l_by_number (startD 9 [.int i, .str (T (fl w [.x])), .str (T (fl w [.s])), .int w.v]) = some (.rt true (.list (tr3 w t))) := by
    unfold g_l_by_number
    have e0 : startD 9 [.int i, .str (T (fl w [.x])), .str (T (fl w [.s])), .int w.v] = [some (.fz (.int i)), some (.fz (.str (T (fl w [.x])))), some (.fz (.str (T (fl w [.s])))), some (.fz (.int w.v)), none, none, none, none, none] := rfl
    rw [e0]
    simp (disch := first | decide | (simp only [List.length_cons, List.length_nil] <;> decide)) only [ev_seq, ev_nx, dSet, eS_mok, dLst, dTup, dCons, dNil, d2, dVar, dVarS, dC, dFn, dCall, List.getElem?_cons_zero, List.getElem?_cons_succ, List.set_cons_zero, List.set_cons_succ, mbind_mok, addD_txt h, addD_list, List.cons_append, List.nil_append, List.append_nil, any_eq, of_eq, ev_ret, hs, hmul, k0 w, k1 w, k2 w, k3 w, k4 w, k5 w, k6 w, k7 w, k8 w, k9 w, k10 w, k11 w, k12 w, k13 w, k14 w, k15 w, k16 w, k17 w, k18 w, k19 w, k20 w, k21 w, k22 w, k23 w, k24 w, k25 w, k26 w, k27 w, k28 w, k29 w, k30 w, k31 w, k32 w, k33 w, k34 w, k35 w, k36 w, k37 w, k38 w, k39 w, k40 w, k41 w, k42 w, k43 w, k44 w, k45 w, k46 w, k47 w, k48 w, k49 w, k50 w, k51 w, k52 w, k53 w, k54 w, k55 w, k56 w, k57 w]
    have hm : modD (.int i) (.int (14 : Int)) = mok (.int (i % 14)) := modD_int (by omega)
    have hg : getD' (.list (tabN.map (tr2 w))) (.int (i % 14)) = _ := hg
    have hln : lenD [.list (tabN.map (tr2 w))] = mok (.int 14) := rfl
    show seqO (dAsg _ _ [some (.fz (.int i)), some (.fz (.str (T (fl w [.x])))), some (.fz (.str (T (fl w [.s])))), some (.fz (.int w.v)), _, _, some (.fz (.list (tabN.map (tr2 w)))), none, none]) _ = _
    unfold dAsg tr3
    rw [g2, any_x]
    simp only [ev_seq, ev_nx, eS_mok, dRetO, dLst, dTup, dCons, dNil, d2, dVar, dVarS, dC, dFn, dCall, List.getElem?_cons_zero, List.getElem?_cons_succ, List.set_cons_zero, List.set_cons_succ, mbind_mok, hln, hm, hg, any_eq, List.cons_append, List.nil_append, List.append_nil, ev_ret, addD_txt h [.x] [.c 32, .c 43, .c 32] (by decide), addD_txt h [.x, .c 32, .c 43, .c 32] [.x] (by decide), k9 w]
    rfl
  exact congrArg resOf h1
end K14

namespace K14
open PySem PySem.Spec PyProof.Rows L2 DL
local macro_rules | `(tactic| walk_at "ev") => `(tactic| simp (disch := first | omega | (simp only [List.length_cons, List.length_nil, List.length_map, List.length_append, List.length_take, List.length_drop] <;> omega) | fail) only [ startD, List.map_cons, List.map_nil, List.cons_append, List.nil_append, List.length_cons, List.length_nil, List.length_map, List.replicate, List.append_nil,
  ev_seq, ev_nx, ev_rt, ev_xc, ev_bk, ev_ct, ev_ss, ev_if, ev_ifT, ev_ifF, ev_stepN, lp_nx, lp_ct, lp_bk, lp_rt, lp_xc, wp_some,
  dSet, dSetO, dRet, dRetO, dRetVar, dNx, eS_ok, eS_mok, mbind_ok, mbind_mok, dTst, d2, d1, dVar, dVarS, dC, dCall, dCons, dNil, dFn, ev_ret, ev_exc, dAnd, dOr, dNot, dAndV, dOrV, dNotV, dTup, dLst, dApp, dSetIx, dAug, dYes, dIt, dItA,  wipeD, gN, gT, gCons', gNil', ev_appOk, ixN_ok, Option.bind_some,
  if_true, if_false, Bool.true_and, Bool.false_and, Bool.and_true, Bool.and_false, Bool.true_or, Bool.false_or, Bool.or_true, Bool.or_false, Bool.not_true, Bool.not_false, decide_true, decide_false, reduceIte, Bool.false_eq_true,
  Int.reduceToNat, Int.reduceAdd, Int.reduceSub, Int.reduceMul, Int.reduceMod, Int.reduceLT, Int.reduceLE, Int.reduceEq, Nat.reduceAdd, Nat.reduceSub, Nat.reduceEqDiff, Nat.reduceLT, Int.reducePow, gt_iff_lt, ge_iff_le, Int.reduceGT, Int.toNat_zero, Int.toNat_one, List.set_cons_zero, List.set_cons_succ, List.getD_cons_zero, List.getD_cons_succ, decide_eq_true_eq, decide_eq_false_iff_not,
  List.getElem?_cons_zero, List.getElem?_cons_succ, addD_int, iaddD_int, subD_int, ltD_int, leD_int, gtD_int, geD_int, eqD_int, neD_int, eqD_bool, asB_bool, lenD_list, lenD_tuple, tupleD_list, tupleD_tuple, listD_list, listD_tuple, resOf, mulD_r, mulD_l, modD_int, divD_int, powD_int, addD_list, addL_list, addD_tuple, cutD_toT, cutD_fromT, cutD_toL, cutD_fromL, cutO_toL, cutO_fromL, sortD_list, sortD_tuple, zipD_list, zipD_tuple, asLT_list, asLT_tuple, dFnO, dResO, dFnS, List.take_succ_cons, List.take_zero, List.drop_succ_cons, List.drop_zero, addD_T, iaddD_T, lenD_T, cutD_to, cutD_from, eqD_T, neD_T, isiD_str, dSl, dSome, dNo, asI_int, letter_small, letter_great, ev_andM, ev_orM, maxD_int, minD_int, absD_int, isiD_bool, getD'_ints, getD'_intsT, getD'_atC, getD'_atCT, rngD_one, rngD_two, isNotD_none, isD_none])
local macro_rules | `(tactic| walk_at "un") => `(tactic| simp (disch := first | omega | (simp only [List.length_cons, List.length_nil, List.length_map, List.length_append, List.length_take, List.length_drop] <;> omega) | fail) only [ dFor, ev_forN, ev_forS, ev_lnx, ev_lct, ev_lbk, ev_lrt, ev_lxc, rngL_step, rngL_nil, range_0, range_1, range_2, range_3, range_4, range_5, startD, List.map_cons, List.map_nil, List.cons_append, List.nil_append, List.length_cons, List.length_nil, List.length_map, List.replicate, List.append_nil,
  ev_seq, ev_nx, ev_rt, ev_xc, ev_bk, ev_ct, ev_ss, ev_if, ev_ifT, ev_ifF, ev_stepN, lp_nx, lp_ct, lp_bk, lp_rt, lp_xc, wp_some,
  dSet, dSetO, dRet, dRetO, dRetVar, dNx, eS_ok, eS_mok, mbind_ok, mbind_mok, dTst, d2, d1, dVar, dVarS, dC, dCall, dCons, dNil, dFn, ev_ret, ev_exc, dAnd, dOr, dNot, dAndV, dOrV, dNotV, dTup, dLst, dApp, dSetIx, dAug, dYes, dIt, dItA,  wipeD, gN, gT, gCons', gNil', ev_appOk, ixN_ok, Option.bind_some,
  if_true, if_false, Bool.true_and, Bool.false_and, Bool.and_true, Bool.and_false, Bool.true_or, Bool.false_or, Bool.or_true, Bool.or_false, Bool.not_true, Bool.not_false, decide_true, decide_false, reduceIte, Bool.false_eq_true,
  Int.reduceToNat, Int.reduceAdd, Int.reduceSub, Int.reduceMul, Int.reduceMod, Int.reduceLT, Int.reduceLE, Int.reduceEq, Nat.reduceAdd, Nat.reduceSub, Nat.reduceEqDiff, Nat.reduceLT, Int.reducePow, gt_iff_lt, ge_iff_le, Int.reduceGT, Int.toNat_zero, Int.toNat_one, List.set_cons_zero, List.set_cons_succ, List.getD_cons_zero, List.getD_cons_succ, decide_eq_true_eq, decide_eq_false_iff_not,
  List.getElem?_cons_zero, List.getElem?_cons_succ, addD_int, iaddD_int, subD_int, ltD_int, leD_int, gtD_int, geD_int, eqD_int, neD_int, eqD_bool, asB_bool, lenD_list, lenD_tuple, tupleD_list, tupleD_tuple, listD_list, listD_tuple, resOf, mulD_r, mulD_l, modD_int, divD_int, powD_int, addD_list, addL_list, addD_tuple, cutD_toT, cutD_fromT, cutD_toL, cutD_fromL, cutO_toL, cutO_fromL, sortD_list, sortD_tuple, zipD_list, zipD_tuple, asLT_list, asLT_tuple, dFnO, dResO, dFnS, List.take_succ_cons, List.take_zero, List.drop_succ_cons, List.drop_zero, addD_T, iaddD_T, lenD_T, cutD_to, cutD_from, eqD_T, neD_T, isiD_str, dSl, dSome, dNo, asI_int, letter_small, letter_great, ev_andM, ev_orM, maxD_int, minD_int, absD_int, isiD_bool, getD'_ints, getD'_intsT, getD'_atC, getD'_atCT, rngD_one, rngD_two, isNotD_none, isD_none])
def rawW (w : Wds) : List D := [
  .tuple [.str (T (fl w [.c 48, .x])), .str (T (fl w [.x])), .tuple [.tuple [.tuple [.str "any", .str (T (fl w [.x]))], .int 1]]],
  .tuple [.str (T (fl w [.c 97, .c 98, .c 99, .c 100, .c 101, .c 102, .c 103])), .str (T (fl w [.c 97, .c 98, .c 99, .c 100, .c 101, .c 102])), .tuple [.tuple [.tuple [.str "any", .str (T [97, 98, 99, 100, 101, 102])], .int 1]]],
  .tuple [.str (T (fl w [.c 48, .c 48])), .str (T (fl w [.c 48])), .tuple []],
  .tuple [.str (T (fl w [.c 65, .c 66, .c 67, .c 68, .c 69, .c 70, .c 71])), .str (T (fl w [.c 65, .c 66, .c 67, .c 68, .c 69, .c 70])), .tuple [.tuple [.tuple [.str "of", .str (T [65, 66, 67, 68, 69, 70]), .tuple []], .int 1]]],
  .tuple [.str (T (fl w [.x, .s])), .str (T (fl w [.x])), .tuple [.tuple [.tuple [.str "any", .str (T (fl w [.x]))], .int 1]]],
  .tuple [.str (T (fl w [])), .str (T (fl w [.c 48])), .tuple []],
  .tuple [.str (T (fl w [.s, .x])), .str (T (fl w [.s])), .tuple [.tuple [.tuple [.str "of", .str (T (fl w [.s])), .tuple []], .int 1]]],
  .tuple [.str (T (fl w [.x, .c 40, .x, .c 41])), .str (T (fl w [.x])), .tuple [.tuple [.tuple [.str "any", .str (T (fl w [.x]))], .int 1]]],
  .tuple [.str (T (fl w [.c 97, .c 95, .c 98])), .str (T (fl w [.c 97])), .tuple [.tuple [.tuple [.str "any", .str (T [97])], .int 1]]],
  .tuple [.str (T (fl w [.c 48, .c 40, .x, .c 41])), .str (T (fl w [.c 40, .c 48, .c 32, .c 43, .c 32, .x, .c 41])), .tuple [.tuple [.tuple [.str "any", .str (T (fl w [.x]))], .int 1]]],
  .tuple [.str (T (fl w [.c 48, .s])), .str (T (fl w [.s])), .tuple [.tuple [.tuple [.str "of", .str (T (fl w [.s])), .tuple []], .int 1]]],
  .tuple [.str (T (fl w [.c 32])), .str (T (fl w [.c 48])), .tuple []],
  .tuple [.str (T (fl w [.c 49, .c 48, .c 48, .c 48, .c 48, .c 48, .c 48, .c 48, .c 48, .c 48, .c 48, .c 48, .c 48, .c 48, .c 48, .c 48, .c 48, .c 48, .c 48, .x])), .str (T (fl w [.c 57, .c 57, .c 57, .c 57, .c 57, .c 57, .c 57, .c 57, .c 57, .c 57, .c 57, .c 57, .c 57, .c 57, .c 57, .c 57, .c 57, .c 57, .x])), .tuple [.tuple [.tuple [.str "any", .str (T (fl w [.x]))], .int 999999999999999999]]],
  .tuple [.str (T (fl w [.c 48, .c 49, .x])), .str (T (fl w [.c 49, .x])), .tuple [.tuple [.tuple [.str "any", .str (T (fl w [.x]))], .int 1]]],
  .tuple [.str (T (fl w [.x, .c 49])), .str (T (fl w [.x])), .tuple [.tuple [.tuple [.str "any", .str (T (fl w [.x]))], .int 1]]],
  .tuple [.str (T (fl w [.x, .c 32])), .str (T (fl w [.x])), .tuple [.tuple [.tuple [.str "any", .str (T (fl w [.x]))], .int 1]]],
  .tuple [.str (T (fl w [.c 32, .x])), .str (T (fl w [.x])), .tuple [.tuple [.tuple [.str "any", .str (T (fl w [.x]))], .int 1]]],
  .tuple [.str (T (fl w [.x, .c 10])), .str (T (fl w [.x])), .tuple [.tuple [.tuple [.str "any", .str (T (fl w [.x]))], .int 1]]],
  .tuple [.str (T (fl w [.c 40, .c 41])), .str (T (fl w [.c 40, .c 48, .c 41])), .tuple []],
  .tuple [.str (T (fl w [.c 40, .x])), .str (T (fl w [.c 40, .x, .c 41])), .tuple [.tuple [.tuple [.str "any", .str (T (fl w [.x]))], .int 1]]],
  .tuple [.str (T (fl w [.x, .c 41])), .str (T (fl w [.x])), .tuple [.tuple [.tuple [.str "any", .str (T (fl w [.x]))], .int 1]]],
  .tuple [.str (T (fl w [.c 40, .c 40, .x, .c 41])), .str (T (fl w [.c 40, .c 40, .x, .c 41, .c 41])), .tuple [.tuple [.tuple [.str "any", .str (T (fl w [.x]))], .int 1]]]]
theorem rawW_eq (w : Wds) : (tabW.map fun t => PyData.tuple (tr3 w t)) = rawW w := by
  simp only [tabW, tr3, List.map_cons, List.map_nil, any_x, any_l, of_s, of_l, nil_c, concs]
  rfl
theorem by_word_ok {w : Wds} (h : w.Ok) {i : Int} (hi : 0 ≤ i) : ∃ t ∈ tabW, G_l_by_word [.int i, .str (T (fl w [.x])), .str (T (fl w [.s]))] = some (.ret true (.list (tr3 w t))) := by
  obtain ⟨t, ht, hg⟩ := at_mod (l := tabW) (f := fun t => .tuple (tr3 w t)) (by decide) hi
  refine ⟨t, ht, ?_⟩
  have hp : powD (.int 10) (.int 18) = mok (.int 1000000000000000000) := by kernel_rfl
  have hs1 : strD [.int 1000000000000000000] = mok (.str (T (fl w [.c 49, .c 48, .c 48, .c 48, .c 48, .c 48, .c 48, .c 48, .c 48, .c 48, .c 48, .c 48, .c 48, .c 48, .c 48, .c 48, .c 48, .c 48, .c 48]))) := by kernel_rfl
  have hs2 : strD [.int 999999999999999999] = mok (.str (T (fl w [.c 57, .c 57, .c 57, .c 57, .c 57, .c 57, .c 57, .c 57, .c 57, .c 57, .c 57, .c 57, .c 57, .c 57, .c 57, .c 57, .c 57, .c 57]))) := by kernel_rfl
  have hsub : subD (.int 1000000000000000000) (.int 1) = mok (.int 999999999999999999) := by kernel_rfl
  have h1 : g_l_by_word (startD 4 [.int i, .str (T (fl w [.x])), .str (T (fl w [.s]))]) = some (.rt true (.list (tr3 w t))) := by
    unfold g_l_by_word
    have e0 : startD 4 [.int i, .str (T (fl w [.x])), .str (T (fl w [.s]))] = [some (.fz (.int i)), some (.fz (.str (T (fl w [.x])))), some (.fz (.str (T (fl w [.s])))), none] := rfl
    rw [e0]
    simp (disch := first | decide | (simp only [List.length_cons, List.length_nil] <;> decide)) only [ev_seq, ev_nx, dSet, eS_mok, dLst, dTup, dCons, dNil, d2, dVar, dVarS, dC, dFn, dCall, List.getElem?_cons_zero, List.getElem?_cons_succ, List.set_cons_zero, List.set_cons_succ, mbind_mok, addD_txt h, addD_list, List.cons_append, List.nil_append, List.append_nil, any_eq, of_eq, ev_ret, hs1, hs2, hp, hsub, k0 w, k1 w, k2 w, k3 w, k4 w, k5 w, k6 w, k7 w, k8 w, k9 w, k10 w, k11 w, k12 w, k13 w, k14 w, k15 w, k16 w, k17 w, k18 w, k19 w, k20 w, k21 w, k22 w, k23 w, k24 w, k25 w, k26 w, k27 w, k28 w, k29 w, k30 w, k31 w, k32 w, k33 w, k34 w, k35 w, k36 w, k37 w, k38 w, k39 w, k40 w, k41 w, k42 w, k43 w, k44 w, k45 w, k46 w, k47 w, k48 w, k49 w, k50 w, k51 w, k52 w, k53 w, k54 w, k55 w, k56 w, k57 w]
    have hm : modD (.int i) (.int (22 : Int)) = mok (.int (i % 22)) := modD_int (by omega)
    have hg : getD' (.list (tabW.map fun t => .tuple (tr3 w t))) (.int (i % 22)) = _ := hg
    have hln : lenD [.list (tabW.map fun t => PyData.tuple (tr3 w t))] = mok (.int 22) := rfl
    show dRetO _ [some (.fz (.int i)), some (.fz (.str (T (fl w [.x])))), some (.fz (.str (T (fl w [.s])))), some (.fz (.list (rawW w)))] = _
    rw [← rawW_eq]
    unfold dRetO
    simp only [ev_seq, ev_nx, eS_mok, dRetO, dLst, dTup, dCons, dNil, d2, dVar, dVarS, dC, dFn, dCall, List.getElem?_cons_zero, List.getElem?_cons_succ, List.set_cons_zero, List.set_cons_succ, mbind_mok, hln, hm, hg, any_eq, List.cons_append, List.nil_append, List.append_nil, ev_ret, addD_txt h [.x] [.c 32, .c 43, .c 32] (by decide), addD_txt h [.x, .c 32, .c 43, .c 32] [.x] (by decide), k9 w]
    rfl
  exact congrArg resOf h1
end K14

namespace K14
open PySem PySem.Spec PyProof.Rows L2 DL
local macro_rules | `(tactic| walk_at "ev") => `(tactic| simp (disch := first | omega | (simp only [List.length_cons, List.length_nil, List.length_map, List.length_append, List.length_take, List.length_drop] <;> omega) | fail) only [ startD, List.map_cons, List.map_nil, List.cons_append, List.nil_append, List.length_cons, List.length_nil, List.length_map, List.replicate, List.append_nil,
  ev_seq, ev_nx, ev_rt, ev_xc, ev_bk, ev_ct, ev_ss, ev_if, ev_ifT, ev_ifF, ev_stepN, lp_nx, lp_ct, lp_bk, lp_rt, lp_xc, wp_some,
  dSet, dSetO, dRet, dRetO, dRetVar, dNx, eS_ok, eS_mok, mbind_ok, mbind_mok, dTst, d2, d1, dVar, dVarS, dC, dCall, dCons, dNil, dFn, ev_ret, ev_exc, dAnd, dOr, dNot, dAndV, dOrV, dNotV, dTup, dLst, dApp, dSetIx, dAug, dYes, dIt, dItA,  wipeD, gN, gT, gCons', gNil', ev_appOk, ixN_ok, Option.bind_some,
  if_true, if_false, Bool.true_and, Bool.false_and, Bool.and_true, Bool.and_false, Bool.true_or, Bool.false_or, Bool.or_true, Bool.or_false, Bool.not_true, Bool.not_false, decide_true, decide_false, reduceIte, Bool.false_eq_true,
  Int.reduceToNat, Int.reduceAdd, Int.reduceSub, Int.reduceMul, Int.reduceMod, Int.reduceLT, Int.reduceLE, Int.reduceEq, Nat.reduceAdd, Nat.reduceSub, Nat.reduceEqDiff, Nat.reduceLT, Int.reducePow, gt_iff_lt, ge_iff_le, Int.reduceGT, Int.toNat_zero, Int.toNat_one, List.set_cons_zero, List.set_cons_succ, List.getD_cons_zero, List.getD_cons_succ, decide_eq_true_eq, decide_eq_false_iff_not,
  List.getElem?_cons_zero, List.getElem?_cons_succ, addD_int, iaddD_int, subD_int, ltD_int, leD_int, gtD_int, geD_int, eqD_int, neD_int, eqD_bool, asB_bool, lenD_list, lenD_tuple, tupleD_list, tupleD_tuple, listD_list, listD_tuple, resOf, mulD_r, mulD_l, modD_int, divD_int, powD_int, addD_list, addL_list, addD_tuple, cutD_toT, cutD_fromT, cutD_toL, cutD_fromL, cutO_toL, cutO_fromL, sortD_list, sortD_tuple, zipD_list, zipD_tuple, asLT_list, asLT_tuple, dFnO, dResO, dFnS, List.take_succ_cons, List.take_zero, List.drop_succ_cons, List.drop_zero, addD_T, iaddD_T, lenD_T, cutD_to, cutD_from, eqD_T, neD_T, isiD_str, dSl, dSome, dNo, asI_int, letter_small, letter_great, ev_andM, ev_orM, maxD_int, minD_int, absD_int, isiD_bool, getD'_ints, getD'_intsT, getD'_atC, getD'_atCT, rngD_one, rngD_two, isNotD_none, isD_none])
local macro_rules | `(tactic| walk_at "un") => `(tactic| simp (disch := first | omega | (simp only [List.length_cons, List.length_nil, List.length_map, List.length_append, List.length_take, List.length_drop] <;> omega) | fail) only [ dFor, ev_forN, ev_forS, ev_lnx, ev_lct, ev_lbk, ev_lrt, ev_lxc, rngL_step, rngL_nil, range_0, range_1, range_2, range_3, range_4, range_5, startD, List.map_cons, List.map_nil, List.cons_append, List.nil_append, List.length_cons, List.length_nil, List.length_map, List.replicate, List.append_nil,
  ev_seq, ev_nx, ev_rt, ev_xc, ev_bk, ev_ct, ev_ss, ev_if, ev_ifT, ev_ifF, ev_stepN, lp_nx, lp_ct, lp_bk, lp_rt, lp_xc, wp_some,
  dSet, dSetO, dRet, dRetO, dRetVar, dNx, eS_ok, eS_mok, mbind_ok, mbind_mok, dTst, d2, d1, dVar, dVarS, dC, dCall, dCons, dNil, dFn, ev_ret, ev_exc, dAnd, dOr, dNot, dAndV, dOrV, dNotV, dTup, dLst, dApp, dSetIx, dAug, dYes, dIt, dItA,  wipeD, gN, gT, gCons', gNil', ev_appOk, ixN_ok, Option.bind_some,
  if_true, if_false, Bool.true_and, Bool.false_and, Bool.and_true, Bool.and_false, Bool.true_or, Bool.false_or, Bool.or_true, Bool.or_false, Bool.not_true, Bool.not_false, decide_true, decide_false, reduceIte, Bool.false_eq_true,
  Int.reduceToNat, Int.reduceAdd, Int.reduceSub, Int.reduceMul, Int.reduceMod, Int.reduceLT, Int.reduceLE, Int.reduceEq, Nat.reduceAdd, Nat.reduceSub, Nat.reduceEqDiff, Nat.reduceLT, Int.reducePow, gt_iff_lt, ge_iff_le, Int.reduceGT, Int.toNat_zero, Int.toNat_one, List.set_cons_zero, List.set_cons_succ, List.getD_cons_zero, List.getD_cons_succ, decide_eq_true_eq, decide_eq_false_iff_not,
  List.getElem?_cons_zero, List.getElem?_cons_succ, addD_int, iaddD_int, subD_int, ltD_int, leD_int, gtD_int, geD_int, eqD_int, neD_int, eqD_bool, asB_bool, lenD_list, lenD_tuple, tupleD_list, tupleD_tuple, listD_list, listD_tuple, resOf, mulD_r, mulD_l, modD_int, divD_int, powD_int, addD_list, addL_list, addD_tuple, cutD_toT, cutD_fromT, cutD_toL, cutD_fromL, cutO_toL, cutO_fromL, sortD_list, sortD_tuple, zipD_list, zipD_tuple, asLT_list, asLT_tuple, dFnO, dResO, dFnS, List.take_succ_cons, List.take_zero, List.drop_succ_cons, List.drop_zero, addD_T, iaddD_T, lenD_T, cutD_to, cutD_from, eqD_T, neD_T, isiD_str, dSl, dSome, dNo, asI_int, letter_small, letter_great, ev_andM, ev_orM, maxD_int, minD_int, absD_int, isiD_bool, getD'_ints, getD'_intsT, getD'_atC, getD'_atCT, rngD_one, rngD_two, isNotD_none, isD_none])
/-! ### by_size -/
def rptN (l : List Nat) : Nat → List Nat
  | 0 => []
  | n + 1 => l ++ rptN l n
theorem rep_fold (a : List Nat) : ∀ (n : Nat) (acc : Array Nat), (List.replicate n a.toArray).foldl (· ++ ·) acc = acc ++ (rptN a n).toArray
  | 0, acc => by simp [rptN]
  | n + 1, acc => by
    rw [List.replicate_succ, List.foldl_cons, rep_fold a n, rptN, Array.append_assoc]
    simp
theorem fl_rpt (w : Wds) (a : List Tk) : ∀ n : Nat, fl w (rpt a n) = rptN (fl w a) n
  | 0 => rfl
  | n + 1 => by rw [rpt, fl_app, fl_rpt w a n, rptN]
theorem mul_txt {w : Wds} (h : w.Ok) (a : List Tk) (n : Nat) (h2 : 2 ≤ n) (h3 : n ≤ 1000) (ha : a ≠ []) (hc : cap a ≤ 1000) : mulSD (.str (T (fl w a))) (.int (n : Int)) = mok (.str (T (fl w (rpt a n)))) := by
  have h1 := cap_ok h a
  show (if (n : Int).natAbs ≤ 1000 ∧ (T (fl w a)).length ≤ 1000 then mok (PyData.str (repS (T (fl w a)) n)) else none) = _
  rw [if_pos ⟨by omega, by rw [T_len]; omega⟩]
  have hne : 0 < (fl w a).length := by
    cases a with
    | nil => exact absurd rfl ha
    | cons t a =>
      obtain ⟨c, l, e⟩ := fl1_ne h t
      rw [fl_cons, e]
      simp
  have e1 : ((n : Int) == 1) = false := by rw [beq_eq_false_iff_ne]; omega
  have e2 : ((T (fl w a)).length == 0) = false := by rw [T_len, beq_eq_false_iff_ne]; omega
  unfold repS
  rw [if_neg (by omega), e1, e2, if_neg (by simp)]
  have e3 : (T (fl w a)).cps = (fl w a).toArray := rfl
  rw [e3, rep_fold, Int.toNat_natCast, ← fl_rpt]
  have e4 : (#[] : Array Nat) ++ (fl w (rpt a n)).toArray = (fl w (rpt a n)).toArray := by simp
  rw [e4]
  rfl
theorem size_loop {w : Wds} (v0 v1 : Option Sl) : ∀ (l : List D) (n : Nat) (x4 : Option Sl), ∃ x4', forD (gN 4) (dSet 3 (dFn (fun ds => G_l_of (ds ++ [])) (dCons (dVar 2) (dCons (dTup (dCons (dVar 3) dNil)) dNil)))) l [v0, v1, some (.fz (.str (T (fl w [.s])))), some (.fz (conc w (nest n))), x4] = some (.nx [v0, v1, some (.fz (.str (T (fl w [.s])))), some (.fz (conc w (nest (n + l.length)))), x4'])
  | [], n, x4 => ⟨x4, rfl⟩
  | d :: l, n, x4 => by
    obtain ⟨x4', he⟩ := size_loop v0 v1 l (n + 1) (some (.fz d))
    refine ⟨x4', ?_⟩
    have e1 : conc w (nest (n + 1)) = .tuple [.tuple [.tuple [.str "of", .str (T (fl w [.s])), .tuple [conc w (nest n)]], .int 1]] := by
      rw [nest, of_s, concs, concs]
    have hb : dSet 3 (dFn (fun ds => G_l_of (ds ++ [])) (dCons (dVar 2) (dCons (dTup (dCons (dVar 3) dNil)) dNil))) [v0, v1, some (.fz (.str (T (fl w [.s])))), some (.fz (conc w (nest n))), some (.fz d)] = some (.nx [v0, v1, some (.fz (.str (T (fl w [.s])))), some (.fz (conc w (nest (n + 1)))), some (.fz d)]) := by
      rw [e1]
      rfl
    have e2 : n + (d :: l).length = n + 1 + l.length := by rw [List.length_cons]; omega
    have hg : gN 4 d [v0, v1, some (.fz (.str (T (fl w [.s])))), some (.fz (conc w (nest n))), x4] = some [v0, v1, some (.fz (.str (T (fl w [.s])))), some (.fz (conc w (nest n))), some (.fz d)] := rfl
    rw [e2]
    simp only [forD, hg, hb]
    exact he
theorem by_size_ok {w : Wds} (h : w.Ok) {i : Int} (hi : 0 ≤ i) : ∃ t ∈ tabZ, G_l_by_size [.int i, .str (T (fl w [.x])), .str (T (fl w [.s]))] = some (.ret true (.list (tr3 w t))) := by
  have hm : modD (.int i) (.int 3) = mok (.int (i % 3)) := modD_int (by omega)
  have e0 : startD 5 [.int i, .str (T (fl w [.x])), .str (T (fl w [.s]))] = [some (.fz (.int i)), some (.fz (.str (T (fl w [.x])))), some (.fz (.str (T (fl w [.s])))), none, none] := rfl
  have t0 : dTst (d2 eqD (d2 modD (dVarS 0) (dC (.int 3))) (dC (.int 0))) [some (.fz (.int i)), some (.fz (.str (T (fl w [.x])))), some (.fz (.str (T (fl w [.s])))), none, none] = mok (decide (i % 3 = 0)) := by
    simp only [dTst, d2, dVarS, dC, List.getElem?_cons_zero, mbind_mok, hm, eqD_int, asB_bool]
  have t1 : dTst (d2 eqD (d2 modD (dVarS 0) (dC (.int 3))) (dC (.int 1))) [some (.fz (.int i)), some (.fz (.str (T (fl w [.x])))), some (.fz (.str (T (fl w [.s])))), none, none] = mok (decide (i % 3 = 1)) := by
    simp only [dTst, d2, dVarS, dC, List.getElem?_cons_zero, mbind_mok, hm, eqD_int, asB_bool]
  have m21 : ∀ a : List Tk, a ≠ [] → cap a ≤ 1000 → mulSD (.str (T (fl w a))) (.int 21) = mok (.str (T (fl w (rpt a 21)))) := fun a h1 h2 => mul_txt h a 21 (by omega) (by omega) h1 h2
  have m20 : ∀ a : List Tk, a ≠ [] → cap a ≤ 1000 → mulSD (.str (T (fl w a))) (.int 20) = mok (.str (T (fl w (rpt a 20)))) := fun a h1 h2 => mul_txt h a 20 (by omega) (by omega) h1 h2
  have m149 : ∀ a : List Tk, a ≠ [] → cap a ≤ 1000 → mulSD (.str (T (fl w a))) (.int 149) = mok (.str (T (fl w (rpt a 149)))) := fun a h1 h2 => mul_txt h a 149 (by omega) (by omega) h1 h2
  have h3 : 0 ≤ i % 3 := Int.emod_nonneg _ (by omega)
  have h4 : i % 3 < 3 := Int.emod_lt_of_pos _ (by omega)
  by_cases c0 : i % 3 = 0
  · refine ⟨_, List.mem_cons_self, congrArg resOf (dSeq_rt (o := true) (d := .list (tr3 w _)) (dIfS_t (t0.trans (by rw [decide_eq_true c0])) ?_))⟩
    unfold tr3
    rw [any_x]
    simp (disch := first | decide | exact List.cons_ne_nil _ _ | (simp only [List.length_cons, List.length_nil] <;> decide)) only [ev_seq, ev_nx, dSet, dRetO, eS_mok, dLst, dTup, dCons, dNil, d2, dVar, dVarS, dC, dFn, dCall, List.getElem?_cons_zero, List.getElem?_cons_succ, List.set_cons_zero, List.set_cons_succ, mbind_mok, addD_txt h, List.append_nil, List.nil_append, any_eq, of_eq, ev_ret, m21, m20, k0 w, k1 w, k2 w, k3 w, k4 w, k5 w, k6 w, k7 w, k8 w, k9 w, k10 w, k11 w, k12 w, k13 w, k14 w, k15 w, k16 w, k17 w, k18 w, k19 w, k20 w, k21 w, k22 w, k23 w, k24 w, k25 w, k26 w, k27 w, k28 w, k29 w, k30 w, k31 w, k32 w, k33 w, k34 w, k35 w, k36 w, k37 w, k38 w, k39 w, k40 w, k41 w, k42 w, k43 w, k44 w, k45 w, k46 w, k47 w, k48 w, k49 w, k50 w, k51 w, k52 w, k53 w, k54 w, k55 w, k56 w, k57 w]
    rfl
  · by_cases c1 : i % 3 = 1
    · refine ⟨_, List.mem_cons_of_mem _ List.mem_cons_self, congrArg resOf (dSeq_nx (dIfS_f (t0.trans (by rw [decide_eq_false c0])) rfl) (dSeq_rt (o := true) (d := .list (tr3 w _)) (dIfS_t (t1.trans (by rw [decide_eq_true c1])) (dSeq_nx (e := [some (.fz (.int i)), some (.fz (.str (T (fl w [.x])))), some (.fz (.str (T (fl w [.s])))), some (.fz (conc w (nest 0))), none]) (by rw [nest, nil_c]; rfl) ?_))))⟩
      obtain ⟨x4', hl⟩ := size_loop (w := w) (some (.fz (.int i))) (some (.fz (.str (T (fl w [.x]))))) (rngL 0 20) 0 none
      refine dSeq_nx (dFor_of (ds := rngL 0 20) rfl hl) ?_
      have e20 : 0 + (rngL 0 20).length = 20 := rfl
      rw [e20]
      unfold tr3
      simp (disch := first | decide | exact List.cons_ne_nil _ _ | (simp only [List.length_cons, List.length_nil] <;> decide)) only [ev_seq, ev_nx, dSet, dRetO, eS_mok, dLst, dTup, dCons, dNil, d2, dVar, dVarS, dC, dFn, dCall, List.getElem?_cons_zero, List.getElem?_cons_succ, List.set_cons_zero, List.set_cons_succ, mbind_mok, addD_txt h, List.append_nil, List.nil_append, any_eq, of_eq, ev_ret, m21, m20, List.cons_append, k0 w, k1 w, k2 w, k3 w, k4 w, k5 w, k6 w, k7 w, k8 w, k9 w, k10 w, k11 w, k12 w, k13 w, k14 w, k15 w, k16 w, k17 w, k18 w, k19 w, k20 w, k21 w, k22 w, k23 w, k24 w, k25 w, k26 w, k27 w, k28 w, k29 w, k30 w, k31 w, k32 w, k33 w, k34 w, k35 w, k36 w, k37 w, k38 w, k39 w, k40 w, k41 w, k42 w, k43 w, k44 w, k45 w, k46 w, k47 w, k48 w, k49 w, k50 w, k51 w, k52 w, k53 w, k54 w, k55 w, k56 w, k57 w]
    · refine ⟨_, List.mem_cons_of_mem _ (List.mem_cons_of_mem _ List.mem_cons_self), congrArg resOf (dSeq_nx (dIfS_f (t0.trans (by rw [decide_eq_false c0])) rfl) (dSeq_nx (r := some (.rt true (.list (tr3 w _)))) (dIfS_f (t1.trans (by rw [decide_eq_false c1])) rfl) ?_))⟩
      unfold tr3
      have e9 : conc w (.fl [(.lit [97], .k 149), (.lit [97, 98, 99, 100], .k 1)]) = .tuple [.tuple [.tuple [.str "any", .str (T (fl w [.c 97]))], .int 149], .tuple [.tuple [.str "any", .str (T (fl w [.c 97, .c 98, .c 99, .c 100]))], .int 1]] := by
        rw [conc]
        rfl
      simp (disch := first | decide | exact List.cons_ne_nil _ _ | (simp only [List.length_cons, List.length_nil] <;> decide)) only [ev_seq, ev_nx, dSet, dRetO, eS_mok, dLst, dTup, dCons, dNil, d2, dVar, dVarS, dC, dFn, dCall, List.getElem?_cons_zero, List.getElem?_cons_succ, List.set_cons_zero, List.set_cons_succ, mbind_mok, addD_txt h, List.append_nil, List.nil_append, any_eq, of_eq, ev_ret, m149, e9, k0 w, k1 w, k2 w, k3 w, k4 w, k5 w, k6 w, k7 w, k8 w, k9 w, k10 w, k11 w, k12 w, k13 w, k14 w, k15 w, k16 w, k17 w, k18 w, k19 w, k20 w, k21 w, k22 w, k23 w, k24 w, k25 w, k26 w, k27 w, k28 w, k29 w, k30 w, k31 w, k32 w, k33 w, k34 w, k35 w, k36 w, k37 w, k38 w, k39 w, k40 w, k41 w, k42 w, k43 w, k44 w, k45 w, k46 w, k47 w, k48 w, k49 w, k50 w, k51 w, k52 w, k53 w, k54 w, k55 w, k56 w, k57 w]
end K14

set_option maxHeartbeats 400000
namespace K14
open PySem PySem.Spec PyProof.Rows L2 DL
local macro_rules | `(tactic| walk_at "ev") => `(tactic| simp (disch := first | omega | (simp only [List.length_cons, List.length_nil, List.length_map, List.length_append, List.length_take, List.length_drop] <;> omega) | fail) only [ startD, List.map_cons, List.map_nil, List.cons_append, List.nil_append, List.length_cons, List.length_nil, List.length_map, List.replicate, List.append_nil,
  ev_seq, ev_nx, ev_rt, ev_xc, ev_bk, ev_ct, ev_ss, ev_if, ev_ifT, ev_ifF, ev_stepN, lp_nx, lp_ct, lp_bk, lp_rt, lp_xc, wp_some,
  dSet, dSetO, dRet, dRetO, dRetVar, dNx, eS_ok, eS_mok, mbind_ok, mbind_mok, dTst, d2, d1, dVar, dVarS, dC, dCall, dCons, dNil, dFn, ev_ret, ev_exc, dAnd, dOr, dNot, dAndV, dOrV, dNotV, dTup, dLst, dApp, dSetIx, dAug, dYes, dIt, dItA,  wipeD, gN, gT, gCons', gNil', ev_appOk, ixN_ok, Option.bind_some,
  if_true, if_false, Bool.true_and, Bool.false_and, Bool.and_true, Bool.and_false, Bool.true_or, Bool.false_or, Bool.or_true, Bool.or_false, Bool.not_true, Bool.not_false, decide_true, decide_false, reduceIte, Bool.false_eq_true,
  Int.reduceToNat, Int.reduceAdd, Int.reduceSub, Int.reduceMul, Int.reduceMod, Int.reduceLT, Int.reduceLE, Int.reduceEq, Nat.reduceAdd, Nat.reduceSub, Nat.reduceEqDiff, Nat.reduceLT, Int.reducePow, gt_iff_lt, ge_iff_le, Int.reduceGT, Int.toNat_zero, Int.toNat_one, List.set_cons_zero, List.set_cons_succ, List.getD_cons_zero, List.getD_cons_succ, decide_eq_true_eq, decide_eq_false_iff_not,
  List.getElem?_cons_zero, List.getElem?_cons_succ, addD_int, iaddD_int, subD_int, ltD_int, leD_int, gtD_int, geD_int, eqD_int, neD_int, eqD_bool, asB_bool, lenD_list, lenD_tuple, tupleD_list, tupleD_tuple, listD_list, listD_tuple, resOf, mulD_r, mulD_l, modD_int, divD_int, powD_int, addD_list, addL_list, addD_tuple, cutD_toT, cutD_fromT, cutD_toL, cutD_fromL, cutO_toL, cutO_fromL, sortD_list, sortD_tuple, zipD_list, zipD_tuple, asLT_list, asLT_tuple, dFnO, dResO, dFnS, List.take_succ_cons, List.take_zero, List.drop_succ_cons, List.drop_zero, addD_T, iaddD_T, lenD_T, cutD_to, cutD_from, eqD_T, neD_T, isiD_str, dSl, dSome, dNo, asI_int, letter_small, letter_great, ev_andM, ev_orM, maxD_int, minD_int, absD_int, isiD_bool, getD'_ints, getD'_intsT, getD'_atC, getD'_atCT, rngD_one, rngD_two, isNotD_none, isD_none])
local macro_rules | `(tactic| walk_at "un") => `(tactic| simp (disch := first | omega | (simp only [List.length_cons, List.length_nil, List.length_map, List.length_append, List.length_take, List.length_drop] <;> omega) | fail) only [ dFor, ev_forN, ev_forS, ev_lnx, ev_lct, ev_lbk, ev_lrt, ev_lxc, rngL_step, rngL_nil, range_0, range_1, range_2, range_3, range_4, range_5, startD, List.map_cons, List.map_nil, List.cons_append, List.nil_append, List.length_cons, List.length_nil, List.length_map, List.replicate, List.append_nil,
  ev_seq, ev_nx, ev_rt, ev_xc, ev_bk, ev_ct, ev_ss, ev_if, ev_ifT, ev_ifF, ev_stepN, lp_nx, lp_ct, lp_bk, lp_rt, lp_xc, wp_some,
  dSet, dSetO, dRet, dRetO, dRetVar, dNx, eS_ok, eS_mok, mbind_ok, mbind_mok, dTst, d2, d1, dVar, dVarS, dC, dCall, dCons, dNil, dFn, ev_ret, ev_exc, dAnd, dOr, dNot, dAndV, dOrV, dNotV, dTup, dLst, dApp, dSetIx, dAug, dYes, dIt, dItA,  wipeD, gN, gT, gCons', gNil', ev_appOk, ixN_ok, Option.bind_some,
  if_true, if_false, Bool.true_and, Bool.false_and, Bool.and_true, Bool.and_false, Bool.true_or, Bool.false_or, Bool.or_true, Bool.or_false, Bool.not_true, Bool.not_false, decide_true, decide_false, reduceIte, Bool.false_eq_true,
  Int.reduceToNat, Int.reduceAdd, Int.reduceSub, Int.reduceMul, Int.reduceMod, Int.reduceLT, Int.reduceLE, Int.reduceEq, Nat.reduceAdd, Nat.reduceSub, Nat.reduceEqDiff, Nat.reduceLT, Int.reducePow, gt_iff_lt, ge_iff_le, Int.reduceGT, Int.toNat_zero, Int.toNat_one, List.set_cons_zero, List.set_cons_succ, List.getD_cons_zero, List.getD_cons_succ, decide_eq_true_eq, decide_eq_false_iff_not,
  List.getElem?_cons_zero, List.getElem?_cons_succ, addD_int, iaddD_int, subD_int, ltD_int, leD_int, gtD_int, geD_int, eqD_int, neD_int, eqD_bool, asB_bool, lenD_list, lenD_tuple, tupleD_list, tupleD_tuple, listD_list, listD_tuple, resOf, mulD_r, mulD_l, modD_int, divD_int, powD_int, addD_list, addL_list, addD_tuple, cutD_toT, cutD_fromT, cutD_toL, cutD_fromL, cutO_toL, cutO_fromL, sortD_list, sortD_tuple, zipD_list, zipD_tuple, asLT_list, asLT_tuple, dFnO, dResO, dFnS, List.take_succ_cons, List.take_zero, List.drop_succ_cons, List.drop_zero, addD_T, iaddD_T, lenD_T, cutD_to, cutD_from, eqD_T, neD_T, isiD_str, dSl, dSome, dNo, asI_int, letter_small, letter_great, ev_andM, ev_orM, maxD_int, minD_int, absD_int, isiD_bool, getD'_ints, getD'_intsT, getD'_atC, getD'_atCT, rngD_one, rngD_two, isNotD_none, isD_none])
/-! ### within -/
theorem within_ok {w : Wds} (h : w.Ok) {v : Int} (hv : 0 ≤ v) {t : Tri} (hb : cap t.bad ≤ 600) (hg : cap t.good ≤ 600) : ∃ b, G_l_within [.int v, .str (T (fl w [.x])), .str (T (fl w [.s])), .list (tr3 w t)] = some (.ret b (.list (tr3 w (wi v.toNat t)))) := by
  have e0 : startD 7 [.int v, .str (T (fl w [.x])), .str (T (fl w [.s])), .list (tr3 w t)] = [some (.fz (.int v)), some (.fz (.str (T (fl w [.x])))), some (.fz (.str (T (fl w [.s])))), some (.fz (.list (tr3 w t))), none, none, none] := rfl
  have hs : dAsg (gL 3 (gCons' (gN 4) (gCons' (gN 5) (gCons' (gN 6) gNil')))) (dVar 3) (startD 7 [.int v, .str (T (fl w [.x])), .str (T (fl w [.s])), .list (tr3 w t)]) = some (.nx [some (.fz (.int v)), some (.fz (.str (T (fl w [.x])))), some (.fz (.str (T (fl w [.s])))), some (.fz (.list (tr3 w t))), some (.fz (.str (T (fl w t.bad)))), some (.fz (.str (T (fl w t.good)))), some (.fz (conc w t.form))]) := rfl
  have tt : ∀ j : Int, dTst (d2 eqD (dVarS 0) (dC (.int j))) [some (.fz (.int v)), some (.fz (.str (T (fl w [.x])))), some (.fz (.str (T (fl w [.s])))), some (.fz (.list (tr3 w t))), some (.fz (.str (T (fl w t.bad)))), some (.fz (.str (T (fl w t.good)))), some (.fz (conc w t.form))] = mok (decide (v = j)) := fun j => by
    simp only [dTst, d2, dVarS, dC, List.getElem?_cons_zero, mbind_mok, eqD_int, asB_bool]
  have no : ∀ j : Int, v ≠ j → dTst (d2 eqD (dVarS 0) (dC (.int j))) [some (.fz (.int v)), some (.fz (.str (T (fl w [.x])))), some (.fz (.str (T (fl w [.s])))), some (.fz (.list (tr3 w t))), some (.fz (.str (T (fl w t.bad)))), some (.fz (.str (T (fl w t.good)))), some (.fz (conc w t.form))] = mok false := fun j hj => (tt j).trans (by rw [decide_eq_false hj])
  by_cases c0 : v = 0
  · subst c0
    refine ⟨true, congrArg resOf (dSeq_nx hs (dSeq_rt (o := true) (d := .list (tr3 w (wi 0 t))) (dIfS_t (tt 0) ?_)))⟩
    unfold tr3 wi
    simp (disch := first | decide | (simp only [cap_app, cap, capT] <;> omega)) only [ev_seq, ev_nx, dSet, dRetO, eS_mok, dLst, dTup, dCons, dNil, d2, dVar, dVarS, dC, dFn, dCall, List.getElem?_cons_zero, List.getElem?_cons_succ, List.set_cons_zero, List.set_cons_succ, mbind_mok, addD_txt h, List.append_nil, List.nil_append, any_eq, of_eq, ev_ret, k0 w, k1 w, k2 w, k3 w, k4 w, k5 w, k6 w, k7 w, k8 w, k9 w, k10 w, k11 w, k12 w, k13 w, k14 w, k15 w, k16 w, k17 w, k18 w, k19 w, k20 w, k21 w, k22 w, k23 w, k24 w, k25 w, k26 w, k27 w, k28 w, k29 w, k30 w, k31 w, k32 w, k33 w, k34 w, k35 w, k36 w, k37 w, k38 w, k39 w, k40 w, k41 w, k42 w, k43 w, k44 w, k45 w, k46 w, k47 w, k48 w, k49 w, k50 w, k51 w, k52 w, k53 w, k54 w, k55 w, k56 w, k57 w]
  · by_cases c1 : v = 1
    · subst c1
      refine ⟨true, congrArg resOf (dSeq_nx hs (dSeq_nx (dIfS_f (no 0 c0) rfl) (dSeq_rt (o := true) (d := .list (tr3 w (wi 1 t))) (dIfS_t (tt 1) ?_))))⟩
      unfold tr3 wi
      simp only [of_s, concs, nil_c, any_x, cc]
      simp (disch := first | decide | (simp only [cap_app, cap, capT] <;> omega)) only [ev_seq, ev_nx, dSet, dRetO, eS_mok, dLst, dTup, dCons, dNil, d2, dVar, dVarS, dC, dFn, dCall, List.getElem?_cons_zero, List.getElem?_cons_succ, List.set_cons_zero, List.set_cons_succ, mbind_mok, addD_txt h, List.append_nil, List.nil_append, any_eq, of_eq, ev_ret, k0 w, k1 w, k2 w, k3 w, k4 w, k5 w, k6 w, k7 w, k8 w, k9 w, k10 w, k11 w, k12 w, k13 w, k14 w, k15 w, k16 w, k17 w, k18 w, k19 w, k20 w, k21 w, k22 w, k23 w, k24 w, k25 w, k26 w, k27 w, k28 w, k29 w, k30 w, k31 w, k32 w, k33 w, k34 w, k35 w, k36 w, k37 w, k38 w, k39 w, k40 w, k41 w, k42 w, k43 w, k44 w, k45 w, k46 w, k47 w, k48 w, k49 w, k50 w, k51 w, k52 w, k53 w, k54 w, k55 w, k56 w, k57 w]
    · by_cases c2 : v = 2
      · subst c2
        refine ⟨true, congrArg resOf (dSeq_nx hs (dSeq_nx (dIfS_f (no 0 c0) rfl) (dSeq_nx (dIfS_f (no 1 c1) rfl) (dSeq_rt (o := true) (d := .list (tr3 w (wi 2 t))) (dIfS_t (tt 2) ?_)))))⟩
        unfold tr3 wi
        simp only [of_s, concs, nil_c, any_x, cc]
        simp (disch := first | decide | (simp only [cap_app, cap, capT] <;> omega)) only [ev_seq, ev_nx, dSet, dRetO, eS_mok, dLst, dTup, dCons, dNil, d2, dVar, dVarS, dC, dFn, dCall, List.getElem?_cons_zero, List.getElem?_cons_succ, List.set_cons_zero, List.set_cons_succ, mbind_mok, addD_txt h, List.append_nil, List.nil_append, any_eq, of_eq, ev_ret, k0 w, k1 w, k2 w, k3 w, k4 w, k5 w, k6 w, k7 w, k8 w, k9 w, k10 w, k11 w, k12 w, k13 w, k14 w, k15 w, k16 w, k17 w, k18 w, k19 w, k20 w, k21 w, k22 w, k23 w, k24 w, k25 w, k26 w, k27 w, k28 w, k29 w, k30 w, k31 w, k32 w, k33 w, k34 w, k35 w, k36 w, k37 w, k38 w, k39 w, k40 w, k41 w, k42 w, k43 w, k44 w, k45 w, k46 w, k47 w, k48 w, k49 w, k50 w, k51 w, k52 w, k53 w, k54 w, k55 w, k56 w, k57 w]
      · by_cases c3 : v = 3
        · subst c3
          refine ⟨true, congrArg resOf (dSeq_nx hs (dSeq_nx (dIfS_f (no 0 c0) rfl) (dSeq_nx (dIfS_f (no 1 c1) rfl) (dSeq_nx (dIfS_f (no 2 c2) rfl) (dSeq_rt (o := true) (d := .list (tr3 w (wi 3 t))) (dIfS_t (tt 3) ?_))))))⟩
          unfold tr3 wi
          simp only [of_s, concs, nil_c, any_x, cc]
          simp (disch := first | decide | (simp only [cap_app, cap, capT] <;> omega)) only [ev_seq, ev_nx, dSet, dRetO, eS_mok, dLst, dTup, dCons, dNil, d2, dVar, dVarS, dC, dFn, dCall, List.getElem?_cons_zero, List.getElem?_cons_succ, List.set_cons_zero, List.set_cons_succ, mbind_mok, addD_txt h, List.append_nil, List.nil_append, any_eq, of_eq, ev_ret, k0 w, k1 w, k2 w, k3 w, k4 w, k5 w, k6 w, k7 w, k8 w, k9 w, k10 w, k11 w, k12 w, k13 w, k14 w, k15 w, k16 w, k17 w, k18 w, k19 w, k20 w, k21 w, k22 w, k23 w, k24 w, k25 w, k26 w, k27 w, k28 w, k29 w, k30 w, k31 w, k32 w, k33 w, k34 w, k35 w, k36 w, k37 w, k38 w, k39 w, k40 w, k41 w, k42 w, k43 w, k44 w, k45 w, k46 w, k47 w, k48 w, k49 w, k50 w, k51 w, k52 w, k53 w, k54 w, k55 w, k56 w, k57 w]
          rfl
        · obtain ⟨n, hn⟩ : ∃ n, v.toNat = n + 4 := ⟨v.toNat - 4, by omega⟩
          rw [hn]
          exact ⟨false, congrArg resOf (dSeq_nx hs (dSeq_nx (dIfS_f (no 0 c0) rfl) (dSeq_nx (dIfS_f (no 1 c1) rfl) (dSeq_nx (dIfS_f (no 2 c2) rfl) (dSeq_nx (r := some (.rt false (.list (tr3 w t)))) (dIfS_f (no 3 c3) rfl) rfl)))))⟩
/-! ### a pair -/
theorem pair_ok {w : Wds} (h : w.Ok) (hs : strD [.int w.v] = mok (.str (T (fl w [.n])))) (ns : List Int) {k : Int} (hk : 0 ≤ k ∧ k < 1000) (hv : w.v = 2 + cellF ns k % 999999999999999998) : ∃ (t : Tri) (b : Bool), t.Ok ∧ G_l_pair [.list (ns.map .int), .int k, .str (T (fl w [.x])), .str (T (fl w [.s]))] = some (.ret b (.list (tr3 w t))) := by
  have p1 := pick_ok ns k 1000003 hk.1 (by omega) (by omega)
  have p2 := pick_ok ns (k + 1) 5 (by omega) (by omega) (by omega)
  have p3 := pick_ok ns (k + 2) 7 (by omega) (by omega) (by omega)
  have q1 := pick_nn ns k 1000003 (by omega)
  have q2 := pick_nn ns (k + 1) 5 (by omega)
  have q3 := pick_nn ns (k + 2) 7 (by omega)
  have cl := cell_ok ns k hk.1 (by omega)
  generalize pickF ns k 1000003 = way at p1 q1
  generalize pickF ns (k + 1) 5 = kd at p2 q2
  generalize pickF ns (k + 2) 7 = vv at p3 q3
  obtain ⟨tz, hz, gz⟩ := by_size_ok h q1.1
  obtain ⟨tw, hw, gw⟩ := by_word_ok h q1.1
  obtain ⟨tn, hn, gn⟩ := by_number_ok h hs q1.1
  obtain ⟨tp, hp, gp⟩ := by_plus_ok h q1.1
  obtain ⟨tq, hq, gq⟩ := by_parts_ok h q1.1
  have hnum : d2 addD (dC (.int 2)) (d2 modD (dFn (fun ds => G_l_cell (ds ++ [])) (dCons (dVar 0) (dCons (dVar 1) dNil))) (d2 subD (d2 powD (dC (.int 10)) (dC (.int 18))) (dC (.int 2)))) [some (.fz (.list (ns.map .int))), some (.fz (.int k)), some (.fz (.str (T (fl w [.x])))), some (.fz (.str (T (fl w [.s])))), some (.fz (.int way)), some (.fz (.int kd)), some (.fz (.list (tr3 w tw)))] = mok (.int w.v) := by
    have hpw : powD (.int 10) (.int 18) = mok (.int 1000000000000000000) := by kernel_rfl
    have hsub : subD (.int 1000000000000000000) (.int 2) = mok (.int 999999999999999998) := by kernel_rfl
    have hm : modD (.int (cellF ns k)) (.int 999999999999999998) = mok (.int (cellF ns k % 999999999999999998)) := modD_int (by omega)
    rw [hv]
    simp only [d2, dC, dFn, dCons, dNil, dVar, List.getElem?_cons_zero, List.getElem?_cons_succ, mbind_mok, List.append_nil, cl, ev_ret, hpw, hsub, hm, addD_int]
  simp only [List.append_nil] at hnum
  have es : startD 7 [.list (ns.map .int), .int k, .str (T (fl w [.x])), .str (T (fl w [.s]))] = [some (.fz (.list (ns.map .int))), some (.fz (.int k)), some (.fz (.str (T (fl w [.x])))), some (.fz (.str (T (fl w [.s])))), none, none, none] := rfl
  have i1 : ∀ k2 : DEnv → Option Out, dSeq (dSet 4 (dFn (fun ds => G_l_pick (ds ++ [])) (dCons (dVar 0) (dCons (dVar 1) (dCons (dC (.int 1000003)) dNil))))) k2 (startD 7 [.list (ns.map .int), .int k, .str (T (fl w [.x])), .str (T (fl w [.s]))]) = k2 [some (.fz (.list (ns.map .int))), some (.fz (.int k)), some (.fz (.str (T (fl w [.x])))), some (.fz (.str (T (fl w [.s])))), some (.fz (.int way)), none, none] := fun k2 => by
    rw [es]
    refine dSeq_nx ?_ rfl
    simp only [dSet, dRet, dFn, dCons, dNil, dVar, dVarS, d2, dC, addD_int, List.getElem?_cons_zero, List.getElem?_cons_succ, List.set_cons_zero, List.set_cons_succ, mbind_mok, List.append_nil, p1, ev_ret, eS_mok]
  have i2 : ∀ k2 : DEnv → Option Out, dSeq (dSet 5 (dFn (fun ds => G_l_pick (ds ++ [])) (dCons (dVar 0) (dCons (d2 addD (dVarS 1) (dC (.int 1))) (dCons (dC (.int 5)) dNil))))) k2 [some (.fz (.list (ns.map .int))), some (.fz (.int k)), some (.fz (.str (T (fl w [.x])))), some (.fz (.str (T (fl w [.s])))), some (.fz (.int way)), none, none] = k2 [some (.fz (.list (ns.map .int))), some (.fz (.int k)), some (.fz (.str (T (fl w [.x])))), some (.fz (.str (T (fl w [.s])))), some (.fz (.int way)), some (.fz (.int kd)), none] := fun k2 => by
    refine dSeq_nx ?_ rfl
    simp only [dSet, dRet, dFn, dCons, dNil, dVar, dVarS, d2, dC, addD_int, List.getElem?_cons_zero, List.getElem?_cons_succ, List.set_cons_zero, List.set_cons_succ, mbind_mok, List.append_nil, p2, ev_ret, eS_mok]
  have i3 : ∀ k2 : DEnv → Option Out, dSeq (dSet 6 (dFn (fun ds => G_l_by_word (ds ++ [])) (dCons (dVar 4) (dCons (dVar 2) (dCons (dVar 3) dNil))))) k2 [some (.fz (.list (ns.map .int))), some (.fz (.int k)), some (.fz (.str (T (fl w [.x])))), some (.fz (.str (T (fl w [.s])))), some (.fz (.int way)), some (.fz (.int kd)), none] = k2 [some (.fz (.list (ns.map .int))), some (.fz (.int k)), some (.fz (.str (T (fl w [.x])))), some (.fz (.str (T (fl w [.s])))), some (.fz (.int way)), some (.fz (.int kd)), some (.fz (.list (tr3 w tw)))] := fun k2 => by
    refine dSeq_nx ?_ rfl
    simp only [dSet, dRet, dFn, dCons, dNil, dVar, dVarS, d2, dC, addD_int, List.getElem?_cons_zero, List.getElem?_cons_succ, List.set_cons_zero, List.set_cons_succ, mbind_mok, List.append_nil, gw, ev_ret, eS_mok]
  have tt : ∀ (j : Int) (x6 : Option Sl), dTst (d2 eqD (dVarS 5) (dC (.int j))) [some (.fz (.list (ns.map .int))), some (.fz (.int k)), some (.fz (.str (T (fl w [.x])))), some (.fz (.str (T (fl w [.s])))), some (.fz (.int way)), some (.fz (.int kd)), x6] = mok (decide (kd = j)) := fun j x6 => by
    simp only [dTst, d2, dVarS, dC, List.getElem?_cons_zero, List.getElem?_cons_succ, mbind_mok, eqD_int, asB_bool]
  have no : ∀ (j : Int) (x6 : Option Sl), kd ≠ j → dTst (d2 eqD (dVarS 5) (dC (.int j))) [some (.fz (.list (ns.map .int))), some (.fz (.int k)), some (.fz (.str (T (fl w [.x])))), some (.fz (.str (T (fl w [.s])))), some (.fz (.int way)), some (.fz (.int kd)), x6] = mok false := fun j x6 hj => (tt j x6).trans (by rw [decide_eq_false hj])
  have yes : ∀ (j : Int) (x6 : Option Sl), kd = j → dTst (d2 eqD (dVarS 5) (dC (.int j))) [some (.fz (.list (ns.map .int))), some (.fz (.int k)), some (.fz (.str (T (fl w [.x])))), some (.fz (.str (T (fl w [.s])))), some (.fz (.int way)), some (.fz (.int kd)), x6] = mok true := fun j x6 hj => (tt j x6).trans (by rw [decide_eq_true hj])
  have fin : ∀ t : Tri, cap t.bad ≤ 600 ∧ cap t.good ≤ 600 → (∀ v, (wi v t).Ok) → ∃ (t' : Tri), t'.Ok ∧ dRet (dFn (fun ds => G_l_within (ds ++ [])) (dCons (dFn (fun ds => G_l_pick (ds ++ [])) (dCons (dVar 0) (dCons (d2 addD (dVarS 1) (dC (.int 2))) (dCons (dC (.int 7)) dNil)))) (dCons (dVar 2) (dCons (dVar 3) (dCons (dVar 6) dNil))))) [some (.fz (.list (ns.map .int))), some (.fz (.int k)), some (.fz (.str (T (fl w [.x])))), some (.fz (.str (T (fl w [.s])))), some (.fz (.int way)), some (.fz (.int kd)), some (.fz (.list (tr3 w t)))] = some (.rt false (.list (tr3 w t'))) := fun t hc ho => by
    obtain ⟨b, hb⟩ := within_ok h q3.1 hc.1 hc.2
    refine ⟨wi vv.toNat t, ho _, ?_⟩
    simp only [dRet, dFn, dCons, dNil, dVar, dVarS, d2, dC, List.getElem?_cons_zero, List.getElem?_cons_succ, mbind_mok, addD_int, List.append_nil, p3, ev_ret, hb, eS_mok]
  show ∃ (t : Tri) (b : Bool), t.Ok ∧ resOf (g_l_pair (startD 7 [.list (ns.map .int), .int k, .str (T (fl w [.x])), .str (T (fl w [.s]))])) = _
  unfold g_l_pair
  rw [i1, i2]
  by_cases c0 : kd = 0
  · refine ⟨tz, false, tabZ_ok tz hz, congrArg resOf (dSeq_rt (o := false) (d := .list (tr3 w tz)) (dIfS_t (yes 0 none c0) ?_))⟩
    simp only [dSet, dRet, dFn, dCons, dNil, dVar, dVarS, d2, dC, addD_int, List.getElem?_cons_zero, List.getElem?_cons_succ, List.set_cons_zero, List.set_cons_succ, mbind_mok, List.append_nil, gz, ev_ret, eS_mok]
  · rw [dSeq_nx (dIfS_f (no 0 none c0) rfl) rfl, i3]
    by_cases c1 : kd = 1
    · obtain ⟨t', ok, hf⟩ := fin tn (tabN_cap tn hn) (tabN_ok hn)
      refine ⟨t', false, ok, congrArg resOf (dSeq_nx (dIfS_t (yes 1 _ c1) ?_) (dSeq_nx (dIfS_f (no 2 _ (by omega)) rfl) (dSeq_nx (dIfS_f (no 3 _ (by omega)) rfl) hf)))⟩
      simp only [dSet, dFn, dCons, dNil, dVar, List.getElem?_cons_zero, List.getElem?_cons_succ, List.set_cons_zero, List.set_cons_succ, mbind_mok, hnum, List.append_nil, gn, ev_ret, eS_mok]
    · by_cases c2 : kd = 2
      · obtain ⟨t', ok, hf⟩ := fin tp (tabP_cap tp hp) (tabP_ok hp)
        refine ⟨t', false, ok, congrArg resOf (dSeq_nx (dIfS_f (no 1 _ c1) rfl) (dSeq_nx (dIfS_t (yes 2 _ c2) ?_) (dSeq_nx (dIfS_f (no 3 _ (by omega)) rfl) hf)))⟩
        simp only [dSet, dRet, dFn, dCons, dNil, dVar, dVarS, d2, dC, addD_int, List.getElem?_cons_zero, List.getElem?_cons_succ, List.set_cons_zero, List.set_cons_succ, mbind_mok, List.append_nil, gp, ev_ret, eS_mok]
      · by_cases c3 : kd = 3
        · obtain ⟨t', ok, hf⟩ := fin tq (tabQ_cap tq hq) (tabQ_ok hq)
          refine ⟨t', false, ok, congrArg resOf (dSeq_nx (dIfS_f (no 1 _ c1) rfl) (dSeq_nx (dIfS_f (no 2 _ c2) rfl) (dSeq_nx (dIfS_t (yes 3 _ c3) ?_) hf)))⟩
          simp only [dSet, dRet, dFn, dCons, dNil, dVar, dVarS, d2, dC, addD_int, List.getElem?_cons_zero, List.getElem?_cons_succ, List.set_cons_zero, List.set_cons_succ, mbind_mok, List.append_nil, gq, ev_ret, eS_mok]
        · obtain ⟨t', ok, hf⟩ := fin tw (tabW_cap tw hw) (tabW_ok hw)
          exact ⟨t', false, ok, congrArg resOf (dSeq_nx (dIfS_f (no 1 _ c1) rfl) (dSeq_nx (dIfS_f (no 2 _ c2) rfl) (dSeq_nx (dIfS_f (no 3 _ c3) rfl) hf)))⟩
end K14

namespace K14
open PySem PySem.Spec PyProof.Rows L2 DL
local macro_rules | `(tactic| walk_at "ev") => `(tactic| simp (disch := first | omega | (simp only [List.length_cons, List.length_nil, List.length_map, List.length_append, List.length_take, List.length_drop] <;> omega) | fail) only [cell_ok, pick_ok, startD, List.map_cons, List.map_nil, List.cons_append, List.nil_append, List.length_cons, List.length_nil, List.length_map, List.replicate, List.append_nil,
  ev_seq, ev_nx, ev_rt, ev_xc, ev_bk, ev_ct, ev_ss, ev_if, ev_ifT, ev_ifF, ev_stepN, lp_nx, lp_ct, lp_bk, lp_rt, lp_xc, wp_some,
  dSet, dSetO, dRet, dRetO, dRetVar, dNx, eS_ok, eS_mok, mbind_ok, mbind_mok, dTst, d2, d1, dVar, dVarS, dC, dCall, dCons, dNil, dFn, ev_ret, ev_exc, dAnd, dOr, dNot, dAndV, dOrV, dNotV, dTup, dLst, dApp, dSetIx, dAug, dYes, dIt, dItA,  wipeD, gN, gT, gCons', gNil', ev_appOk, ixN_ok, Option.bind_some,
  if_true, if_false, Bool.true_and, Bool.false_and, Bool.and_true, Bool.and_false, Bool.true_or, Bool.false_or, Bool.or_true, Bool.or_false, Bool.not_true, Bool.not_false, decide_true, decide_false, reduceIte, Bool.false_eq_true,
  Int.reduceToNat, Int.reduceAdd, Int.reduceSub, Int.reduceMul, Int.reduceMod, Int.reduceLT, Int.reduceLE, Int.reduceEq, Nat.reduceAdd, Nat.reduceSub, Nat.reduceEqDiff, Nat.reduceLT, Int.reducePow, gt_iff_lt, ge_iff_le, Int.reduceGT, Int.toNat_zero, Int.toNat_one, List.set_cons_zero, List.set_cons_succ, List.getD_cons_zero, List.getD_cons_succ, decide_eq_true_eq, decide_eq_false_iff_not,
  List.getElem?_cons_zero, List.getElem?_cons_succ, addD_int, iaddD_int, subD_int, ltD_int, leD_int, gtD_int, geD_int, eqD_int, neD_int, eqD_bool, asB_bool, lenD_list, lenD_tuple, tupleD_list, tupleD_tuple, listD_list, listD_tuple, resOf, mulD_r, mulD_l, modD_int, divD_int, powD_int, addD_list, addL_list, addD_tuple, cutD_toT, cutD_fromT, cutD_toL, cutD_fromL, cutO_toL, cutO_fromL, sortD_list, sortD_tuple, zipD_list, zipD_tuple, asLT_list, asLT_tuple, dFnO, dResO, dFnS, List.take_succ_cons, List.take_zero, List.drop_succ_cons, List.drop_zero, addD_T, iaddD_T, lenD_T, cutD_to, cutD_from, eqD_T, neD_T, isiD_str, dSl, dSome, dNo, asI_int, letter_small, letter_great, ev_andM, ev_orM, maxD_int, minD_int, absD_int, isiD_bool, getD'_ints, getD'_intsT, getD'_atC, getD'_atCT, rngD_one, rngD_two, isNotD_none, isD_none])
local macro_rules | `(tactic| walk_at "un") => `(tactic| simp (disch := first | omega | (simp only [List.length_cons, List.length_nil, List.length_map, List.length_append, List.length_take, List.length_drop] <;> omega) | fail) only [cell_ok, pick_ok, dFor, ev_forN, ev_forS, ev_lnx, ev_lct, ev_lbk, ev_lrt, ev_lxc, rngL_step, rngL_nil, range_0, range_1, range_2, range_3, range_4, range_5, startD, List.map_cons, List.map_nil, List.cons_append, List.nil_append, List.length_cons, List.length_nil, List.length_map, List.replicate, List.append_nil,
  ev_seq, ev_nx, ev_rt, ev_xc, ev_bk, ev_ct, ev_ss, ev_if, ev_ifT, ev_ifF, ev_stepN, lp_nx, lp_ct, lp_bk, lp_rt, lp_xc, wp_some,
  dSet, dSetO, dRet, dRetO, dRetVar, dNx, eS_ok, eS_mok, mbind_ok, mbind_mok, dTst, d2, d1, dVar, dVarS, dC, dCall, dCons, dNil, dFn, ev_ret, ev_exc, dAnd, dOr, dNot, dAndV, dOrV, dNotV, dTup, dLst, dApp, dSetIx, dAug, dYes, dIt, dItA,  wipeD, gN, gT, gCons', gNil', ev_appOk, ixN_ok, Option.bind_some,
  if_true, if_false, Bool.true_and, Bool.false_and, Bool.and_true, Bool.and_false, Bool.true_or, Bool.false_or, Bool.or_true, Bool.or_false, Bool.not_true, Bool.not_false, decide_true, decide_false, reduceIte, Bool.false_eq_true,
  Int.reduceToNat, Int.reduceAdd, Int.reduceSub, Int.reduceMul, Int.reduceMod, Int.reduceLT, Int.reduceLE, Int.reduceEq, Nat.reduceAdd, Nat.reduceSub, Nat.reduceEqDiff, Nat.reduceLT, Int.reducePow, gt_iff_lt, ge_iff_le, Int.reduceGT, Int.toNat_zero, Int.toNat_one, List.set_cons_zero, List.set_cons_succ, List.getD_cons_zero, List.getD_cons_succ, decide_eq_true_eq, decide_eq_false_iff_not,
  List.getElem?_cons_zero, List.getElem?_cons_succ, addD_int, iaddD_int, subD_int, ltD_int, leD_int, gtD_int, geD_int, eqD_int, neD_int, eqD_bool, asB_bool, lenD_list, lenD_tuple, tupleD_list, tupleD_tuple, listD_list, listD_tuple, resOf, mulD_r, mulD_l, modD_int, divD_int, powD_int, addD_list, addL_list, addD_tuple, cutD_toT, cutD_fromT, cutD_toL, cutD_fromL, cutO_toL, cutO_fromL, sortD_list, sortD_tuple, zipD_list, zipD_tuple, asLT_list, asLT_tuple, dFnO, dResO, dFnS, List.take_succ_cons, List.take_zero, List.drop_succ_cons, List.drop_zero, addD_T, iaddD_T, lenD_T, cutD_to, cutD_from, eqD_T, neD_T, isiD_str, dSl, dSome, dNo, asI_int, letter_small, letter_great, ev_andM, ev_orM, maxD_int, minD_int, absD_int, isiD_bool, getD'_ints, getD'_intsT, getD'_atC, getD'_atCT, rngD_one, rngD_two, isNotD_none, isD_none])
/-! ### same -/
def Pl : Nat → D → Prop
  | 0, _ => False
  | n + 1, d => (∃ x, d = .str x) ∨ (∃ i, d = .int i) ∨ ∃ xs, (d = .tuple xs ∨ d = .list xs) ∧ ∀ x ∈ xs, Pl n x
theorem Pl.mono : ∀ {n m : Nat} {d : D}, Pl n d → n ≤ m → Pl m d
  | 0, _, _, h, _ => h.elim
  | n + 1, 0, _, _, hm => by omega
  | n + 1, m + 1, d, h, hm => by
    rcases h with h | h | ⟨xs, h, hx⟩
    · exact .inl h
    · exact .inr (.inl h)
    · exact .inr (.inr ⟨xs, h, fun x hxx => Pl.mono (hx x hxx) (by omega)⟩)
theorem pl_str {n : Nat} {x : Str} : Pl (n + 1) (.str x) := .inl ⟨x, rfl⟩
theorem pl_int {n : Nat} {i : Int} : Pl (n + 1) (.int i) := .inr (.inl ⟨i, rfl⟩)
theorem pl_tup {n : Nat} {xs : List D} (h : ∀ x ∈ xs, Pl n x) : Pl (n + 1) (.tuple xs) := .inr (.inr ⟨xs, .inl rfl, h⟩)
theorem pl_list {n : Nat} {xs : List D} (h : ∀ x ∈ xs, Pl n x) : Pl (n + 1) (.list xs) := .inr (.inr ⟨xs, .inr rfl, h⟩)
theorem isi1 {x : Str} : isiD "str" (.str x) = mok (.bool true) := rfl
theorem isi2 {x : Str} : isiD "int" (.str x) = mok (.bool false) := rfl
theorem isi3 {x : Int} : isiD "str" (.int x) = mok (.bool false) := rfl
theorem isi4 {x : Int} : isiD "int" (.int x) = mok (.bool true) := rfl
theorem isi5 {x : Int} : isiD "bool" (.int x) = mok (.bool false) := rfl
theorem isi6 {x : List D} : isiD "str" (.tuple x) = mok (.bool false) := rfl
theorem isi7 {x : List D} : isiD "int" (.tuple x) = mok (.bool false) := rfl
theorem isi8 {x : List D} : isiD "str" (.list x) = mok (.bool false) := rfl
theorem isi9 {x : List D} : isiD "int" (.list x) = mok (.bool false) := rfl
theorem isi10 {x : List D} : isiD "list" (.list x) = mok (.bool true) := rfl
theorem isi11 {x : List D} : isiD "list" (.tuple x) = mok (.bool false) := rfl
theorem isi12 {x : List D} : isiD "tuple" (.list x) = mok (.bool false) := rfl
theorem isi13 {x : List D} : isiD "tuple" (.tuple x) = mok (.bool true) := rfl
theorem ne_bool {p q : Bool} : neD (.bool p) (.bool q) = mok (.bool (!(p == q))) := rfl
theorem zip_self {xs : List D} {i : Nat} {d : D} (h : (zipL xs xs)[i]? = some d) : ∃ x ∈ xs, d = .tuple [x, x] := by
  unfold zipL at h
  rw [List.getElem?_zipWith] at h
  cases hx : xs[i]? with
  | none => rw [hx] at h; simp at h
  | some x =>
    rw [hx] at h
    simp at h
    exact ⟨x, List.mem_of_getElem? hx, h.symm⟩
theorem same_ok : ∀ (n : Nat) (d : D), Pl n d → G_l_same n [d, d] = some (.ret false (.bool true))
  | 0, _, h => h.elim
  | n + 1, d, h => by
    have key : ∃ b z, G_l_same (n + 1) [d, d] = some (.ret b z) ∧ b = false ∧ z = .bool true := by
      show ∃ b z, runD 4 (g_l_same (G_l_same n)) _ = some (.ret b z) ∧ _
      refine run_wp ?_
      unfold g_l_same
      rcases h with ⟨x, rfl⟩ | ⟨i, rfl⟩ | ⟨xs, h, hx⟩
      · repeat (first | walk_at "ev" | simp only [isi1, eqD_str, beq_self_eq_true])
        exact ⟨_, _, rfl, rfl, rfl⟩
      · repeat (first | walk_at "ev" | simp only [isi3, isi4, isi5])
        exact ⟨_, _, rfl, rfl, rfl⟩
      · have hz1 : zipX [.tuple xs, .tuple xs] = mok (zipL xs xs) := rfl
        have hz2 : zipX [.list xs, .list xs] = mok (zipL xs xs) := rfl
        have loop : ∀ (L : D), (∃ env0 : DEnv, env0 = [some (.fz L), some (.fz L), none, none]) → zipX [L, L] = mok (zipL xs xs) →
            Wp (seqO (dFor (gT 2 (gCons' (gN 2) (gCons' (gN 3) gNil'))) (dItA zipX (dCons (dVar 0) (dCons (dVar 1) dNil))) (dIfS (dNot (dTst (dFn (fun ds => G_l_same n ds) (dCons (dVar 2) (dCons (dVar 3) dNil))))) (dRet (dC (.bool false))) dNx) [some (.fz L), some (.fz L), none, none]) (dRet (dC (.bool true)))) fun o => ∃ b z, o = .rt b z ∧ b = false ∧ z = .bool true := by
          intro L _ hz
          refine wp_for (ds := zipL xs xs) (by simp only [dItA, dCons, dNil, dVar, List.getElem?_cons_zero, List.getElem?_cons_succ, mbind_mok]; exact hz) (fun i e => ∃ a b, e = [some (.fz L), some (.fz L), a, b]) ⟨_, _, rfl⟩ ?_ ?_
          · rintro i d e hi ⟨a, b, rfl⟩
            obtain ⟨x, hxm, rfl⟩ := zip_self hi
            have hst : ∀ g (E : DEnv), stepO (gT 2 (gCons' (gN 2) (gCons' (gN 3) gNil'))) g (.tuple [x, x]) E = g ((E.set 2 (some (.fz x))).set 3 (some (.fz x))) := fun _ _ => rfl
            rw [hst]
            have ih := same_ok n x (hx x hxm)
            repeat (first | walk_at "ev" | simp only [ih])
            exact ⟨_, _, rfl⟩
          · rintro e ⟨a, b, rfl⟩
            walk_at "ev"
            exact ⟨_, _, rfl, rfl, rfl⟩
        rcases h with rfl | rfl
        · repeat (first | walk_at "ev" | simp only [isi6, isi7, isi11, isi13, ne_bool, beq_self_eq_true, decide_true, Bool.not_true])
          exact loop (.tuple xs) ⟨_, rfl⟩ hz1
        · repeat (first | walk_at "ev" | simp only [isi8, isi9, isi10, isi12, ne_bool, beq_self_eq_true, decide_true, Bool.not_true])
          exact loop (.list xs) ⟨_, rfl⟩ hz2
    obtain ⟨b, z, h, rfl, rfl⟩ := key
    exact h
theorem mem0' {P : D → Prop} : ∀ x ∈ ([] : List D), P x := fun x hx => by cases hx
theorem memc' {P : D → Prop} {d : D} {ds : List D} (h1 : P d) (h2 : ∀ x ∈ ds, P x) : ∀ x ∈ d :: ds, P x := fun x hx => by
  rcases List.mem_cons.mp hx with rfl | hx
  · exact h1
  · exact h2 x hx
theorem concs_mem {w : Wds} : ∀ {ps : List AF} {x : D}, x ∈ concs w ps → ∃ f ∈ ps, x = conc w f
  | [], x, h => by rw [concs] at h; cases h
  | f :: ps, x, h => by
    rw [concs] at h
    rcases List.mem_cons.mp h with rfl | h
    · exact ⟨f, List.mem_cons_self, rfl⟩
    · obtain ⟨g, hg, e⟩ := concs_mem h
      exact ⟨g, List.mem_cons_of_mem _ hg, e⟩
theorem conc_pl (w : Wds) : ∀ (n : Nat) (f : AF), dpF n f = true → Pl (4 * n + 5) (conc w f)
  | n, .fl l, _ => by
    rw [conc]
    show Pl (4 * n + 4 + 1) _
    refine pl_tup fun x hx => ?_
    obtain ⟨p, hp, rfl⟩ := List.mem_map.mp hx
    obtain ⟨q, hq, rfl⟩ := List.mem_map.mp hp
    show Pl (4 * n + 3 + 1) (.tuple [.tuple [.str "any", .str _], .int _])
    exact pl_tup (memc' (pl_tup (n := 4 * n + 2) (memc' pl_str (memc' pl_str mem0'))) (memc' pl_int mem0'))
  | 0, .th _ _, h => by cases h
  | n + 1, .th a ps, h => by
    rw [conc]
    have h : ps.all (dpF n) = true := h
    show Pl (4 * n + 8 + 1) _
    refine pl_tup (memc' (pl_tup (n := 4 * n + 7) (memc' (pl_tup (n := 4 * n + 6) (memc' pl_str (memc' pl_str (memc' (pl_tup (n := 4 * n + 5) fun x hx => ?_) mem0')))) (memc' pl_int mem0'))) mem0')
    obtain ⟨f, hf, rfl⟩ := concs_mem hx
    exact conc_pl w n f (List.all_eq_true.mp h f hf)
end K14

namespace K14
open PySem PySem.Spec PyProof.Rows L2 DL
local macro_rules | `(tactic| walk_at "ev") => `(tactic| simp (disch := first | omega | (simp only [List.length_cons, List.length_nil, List.length_map, List.length_append, List.length_take, List.length_drop] <;> omega) | fail) only [cell_ok, pick_ok, startD, List.map_cons, List.map_nil, List.cons_append, List.nil_append, List.length_cons, List.length_nil, List.length_map, List.replicate, List.append_nil,
  ev_seq, ev_nx, ev_rt, ev_xc, ev_bk, ev_ct, ev_ss, ev_if, ev_ifT, ev_ifF, ev_stepN, lp_nx, lp_ct, lp_bk, lp_rt, lp_xc, wp_some,
  dSet, dSetO, dRet, dRetO, dRetVar, dNx, eS_ok, eS_mok, mbind_ok, mbind_mok, dTst, d2, d1, dVar, dVarS, dC, dCall, dCons, dNil, dFn, ev_ret, ev_exc, dAnd, dOr, dNot, dAndV, dOrV, dNotV, dTup, dLst, dApp, dSetIx, dAug, dYes, dIt, dItA,  wipeD, gN, gT, gCons', gNil', ev_appOk, ixN_ok, Option.bind_some,
  if_true, if_false, Bool.true_and, Bool.false_and, Bool.and_true, Bool.and_false, Bool.true_or, Bool.false_or, Bool.or_true, Bool.or_false, Bool.not_true, Bool.not_false, decide_true, decide_false, reduceIte, Bool.false_eq_true,
  Int.reduceToNat, Int.reduceAdd, Int.reduceSub, Int.reduceMul, Int.reduceMod, Int.reduceLT, Int.reduceLE, Int.reduceEq, Nat.reduceAdd, Nat.reduceSub, Nat.reduceEqDiff, Nat.reduceLT, Int.reducePow, gt_iff_lt, ge_iff_le, Int.reduceGT, Int.toNat_zero, Int.toNat_one, List.set_cons_zero, List.set_cons_succ, List.getD_cons_zero, List.getD_cons_succ, decide_eq_true_eq, decide_eq_false_iff_not,
  List.getElem?_cons_zero, List.getElem?_cons_succ, addD_int, iaddD_int, subD_int, ltD_int, leD_int, gtD_int, geD_int, eqD_int, neD_int, eqD_bool, asB_bool, lenD_list, lenD_tuple, tupleD_list, tupleD_tuple, listD_list, listD_tuple, resOf, mulD_r, mulD_l, modD_int, divD_int, powD_int, addD_list, addL_list, addD_tuple, cutD_toT, cutD_fromT, cutD_toL, cutD_fromL, cutO_toL, cutO_fromL, sortD_list, sortD_tuple, zipD_list, zipD_tuple, asLT_list, asLT_tuple, dFnO, dResO, dFnS, List.take_succ_cons, List.take_zero, List.drop_succ_cons, List.drop_zero, addD_T, iaddD_T, lenD_T, cutD_to, cutD_from, eqD_T, neD_T, isiD_str, dSl, dSome, dNo, asI_int, letter_small, letter_great, ev_andM, ev_orM, maxD_int, minD_int, absD_int, isiD_bool, getD'_ints, getD'_intsT, getD'_atC, getD'_atCT, rngD_one, rngD_two, isNotD_none, isD_none])
local macro_rules | `(tactic| walk_at "un") => `(tactic| simp (disch := first | omega | (simp only [List.length_cons, List.length_nil, List.length_map, List.length_append, List.length_take, List.length_drop] <;> omega) | fail) only [cell_ok, pick_ok, dFor, ev_forN, ev_forS, ev_lnx, ev_lct, ev_lbk, ev_lrt, ev_lxc, rngL_step, rngL_nil, range_0, range_1, range_2, range_3, range_4, range_5, startD, List.map_cons, List.map_nil, List.cons_append, List.nil_append, List.length_cons, List.length_nil, List.length_map, List.replicate, List.append_nil,
  ev_seq, ev_nx, ev_rt, ev_xc, ev_bk, ev_ct, ev_ss, ev_if, ev_ifT, ev_ifF, ev_stepN, lp_nx, lp_ct, lp_bk, lp_rt, lp_xc, wp_some,
  dSet, dSetO, dRet, dRetO, dRetVar, dNx, eS_ok, eS_mok, mbind_ok, mbind_mok, dTst, d2, d1, dVar, dVarS, dC, dCall, dCons, dNil, dFn, ev_ret, ev_exc, dAnd, dOr, dNot, dAndV, dOrV, dNotV, dTup, dLst, dApp, dSetIx, dAug, dYes, dIt, dItA,  wipeD, gN, gT, gCons', gNil', ev_appOk, ixN_ok, Option.bind_some,
  if_true, if_false, Bool.true_and, Bool.false_and, Bool.and_true, Bool.and_false, Bool.true_or, Bool.false_or, Bool.or_true, Bool.or_false, Bool.not_true, Bool.not_false, decide_true, decide_false, reduceIte, Bool.false_eq_true,
  Int.reduceToNat, Int.reduceAdd, Int.reduceSub, Int.reduceMul, Int.reduceMod, Int.reduceLT, Int.reduceLE, Int.reduceEq, Nat.reduceAdd, Nat.reduceSub, Nat.reduceEqDiff, Nat.reduceLT, Int.reducePow, gt_iff_lt, ge_iff_le, Int.reduceGT, Int.toNat_zero, Int.toNat_one, List.set_cons_zero, List.set_cons_succ, List.getD_cons_zero, List.getD_cons_succ, decide_eq_true_eq, decide_eq_false_iff_not,
  List.getElem?_cons_zero, List.getElem?_cons_succ, addD_int, iaddD_int, subD_int, ltD_int, leD_int, gtD_int, geD_int, eqD_int, neD_int, eqD_bool, asB_bool, lenD_list, lenD_tuple, tupleD_list, tupleD_tuple, listD_list, listD_tuple, resOf, mulD_r, mulD_l, modD_int, divD_int, powD_int, addD_list, addL_list, addD_tuple, cutD_toT, cutD_fromT, cutD_toL, cutD_fromL, cutO_toL, cutO_fromL, sortD_list, sortD_tuple, zipD_list, zipD_tuple, asLT_list, asLT_tuple, dFnO, dResO, dFnS, List.take_succ_cons, List.take_zero, List.drop_succ_cons, List.drop_zero, addD_T, iaddD_T, lenD_T, cutD_to, cutD_from, eqD_T, neD_T, isiD_str, dSl, dSome, dNo, asI_int, letter_small, letter_great, ev_andM, ev_orM, maxD_int, minD_int, absD_int, isiD_bool, getD'_ints, getD'_intsT, getD'_atC, getD'_atCT, rngD_one, rngD_two, isNotD_none, isD_none])
/-! ### the number -/
theorem numL_head : ∀ (m n : Nat), n ≤ m → 1 ≤ n → ∀ c ∈ (TL.numL n).head?, c ≠ 48
  | 0, n, h1, h2 => by omega
  | m + 1, n, h1, h2 => by
    by_cases h : n < 10
    · rw [TL.numL_lt h]
      intro c hc
      cases hc
      omega
    · rw [TL.numL_step (by omega)]
      have ih := numL_head m (n / 10) (by omega) (by omega)
      have hne := TL.numL_ne (n / 10)
      cases e : TL.numL (n / 10) with
      | nil => exact absurd e hne
      | cons c l =>
        rw [e] at ih
        intro d hd
        exact ih d hd
theorem wds_ok {x s : List Nat} (hx : Wd 97 x) (hx6 : x.length ≤ 6) (hs : Wd 65 s) (hs6 : s.length ≤ 6) {v : Int} (h1 : 2 ≤ v) (h2 : v < 1000000000000000000) : (Wds.mk x s (TL.numL v.toNat) v).Ok ∧ strD [.int v] = mok (.str (T (fl (Wds.mk x s (TL.numL v.toNat) v) [.n]))) := by
  obtain ⟨n, rfl⟩ : ∃ n : Nat, v = n := ⟨v.toNat, by omega⟩
  rw [Int.toNat_natCast]
  have hl : (TL.numL n).length ≤ 18 := TL.numL_len (by decide) (by omega)
  have eT : Str.ofString (toString ((n : Nat) : Int)) = T (TL.numL n) := SX.num_S n
  constructor
  · refine ⟨⟨fun c hc => ?_, hx.2.1, hx6⟩, ⟨fun c hc => ?_, hs.2.1, hs6⟩, ⟨fun c hc => ?_, ?_, hl⟩, numL_head n n (Nat.le_refl _) (by omega), by show (1 : Int) ≤ n; omega, h2, ?_⟩
    · have := hx.1 c hc; omega
    · have := hs.1 c hc; omega
    · have := TL.numL_digits n c hc; omega
    · have := TL.numL_ne n
      cases e : TL.numL n with
      | nil => exact absurd e this
      | cons c l => simp
    · have := TL.int_num (n := n) (by omega)
      rw [eT] at this
      exact this
  · have e1 : fl (Wds.mk x s (TL.numL n) n) [.n] = TL.numL n := by simp [fl, fl1]
    rw [e1, ← eT]
    unfold strD
    simp only
    rw [if_pos]
    have : (n : Int).natAbs < 2 ^ 64 := by omega
    have := Nat.log2_lt (n := (n : Int).natAbs) (k := 64) (by omega) |>.mpr this
    omega
/-! ### the law -/
theorem rngC_at {i j : Int} {m : Nat} {d : D} (h1 : 0 ≤ i) (h : (rngC i j 3)[m]? = some d) : ∃ k : Int, d = .int k ∧ i ≤ k ∧ k < j := by
  unfold rngC at h
  rw [List.getElem?_map] at h
  obtain ⟨q, hq, rfl⟩ := Option.map_eq_some_iff.mp h
  obtain ⟨hl, e⟩ := List.getElem?_eq_some_iff.mp hq
  rw [List.getElem_range] at e
  subst e
  rw [List.length_range] at hl
  refine ⟨_, rfl, by omega, ?_⟩
  unfold Builtin.Range.rangeSize at hl
  rw [if_pos (by decide)] at hl
  split at hl
  · have : (j - i - 1) / 3 * 3 ≤ j - i - 1 := Int.ediv_mul_le _ (by decide)
    omega
  · omega
theorem law_ok (E : Errs) (hE : E.Good ["NoText"]) (ns : List Int) (_ : ns.length ≤ 63) : ∃ b d, G_law E [.list (ns.map .int)] = some (.ret b d) ∧ d = .bool true := by
  refine run_wp ?_
  unfold g_law
  obtain ⟨b1, d1, u1, x, x2, x3, rfl, wx, _, _, _, _, _, lx⟩ := unknowns_ok ns 0 (by omega)
  obtain ⟨b2, d2', u2, s, s2, s3, rfl, ws, _, _, _, _, _, ls⟩ := signs_ok ns 2 (by omega)
  refine wp_nx (e := [some (.fz (.list (ns.map .int))), some (.fz (.str (T x))), none, none, none, none, none, none, none]) ?_ ?_
  · have e0 : startD 9 [.list (ns.map .int)] = [some (.fz (.list (ns.map .int))), none, none, none, none, none, none, none, none] := rfl
    have hg : getD' (.list [.str (T x), .str (T x2), .str (T x3)]) (.int 0) = mok (.str (T x)) := rfl
    rw [e0]
    simp only [dSet, d2, dFn, dCons, dNil, dVar, dVarS, dC, List.getElem?_cons_zero, List.getElem?_cons_succ, List.set_cons_zero, List.set_cons_succ, mbind_mok, List.append_nil, u1, hg, ev_ret, eS_mok]
  refine wp_nx (e := [some (.fz (.list (ns.map .int))), some (.fz (.str (T x))), some (.fz (.str (T s))), none, none, none, none, none, none]) ?_ ?_
  · have hg : getD' (.list [.str (T s), .str (T s2), .str (T s3)]) (.int 0) = mok (.str (T s)) := rfl
    simp only [dSet, d2, dFn, dCons, dNil, dVar, dVarS, dC, List.getElem?_cons_zero, List.getElem?_cons_succ, List.set_cons_zero, List.set_cons_succ, mbind_mok, List.append_nil, u2, hg, ev_ret, eS_mok]
  obtain ⟨top, htop, t1, t2⟩ : ∃ top : Int, maxD [.int 17, .int (if (ns.length : Int) < 59 then (ns.length : Int) else 59)] = mok (.int top) ∧ 17 ≤ top ∧ top ≤ 59 := by
    refine ⟨_, maxD_int, ?_, ?_⟩ <;> (split <;> (try split) <;> omega)
  refine wp_st (fun e => ∃ a3 a4 a5 a6, e = [some (.fz (.list (ns.map .int))), some (.fz (.str (T x))), some (.fz (.str (T s))), a3, a4, a5, a6, none, none]) ?_ ?_
  · refine wp_for1 (ds := rngC 5 top 3) ?_ (fun i e => ∃ a3 a4 a5 a6, e = [some (.fz (.list (ns.map .int))), some (.fz (.str (T x))), some (.fz (.str (T s))), a3, a4, a5, a6, none, none]) ⟨_, _, _, _, rfl⟩ ?_ ?_
    · have hr : rng3D [.int 5, .int top, .int 3] = mok (rngC 5 top 3) := by
        unfold rng3D
        simp only
        rw [if_pos]
        refine ⟨⟨by omega, by omega, by omega, by omega⟩, ?_⟩
        have hall : ∀ t : Nat, t < 60 → Builtin.Range.small 5 (t : Int) 3 = true := by decide +kernel
        obtain ⟨t, rfl⟩ : ∃ t : Nat, top = t := ⟨top.toNat, by omega⟩
        exact hall t (by omega)
      have hmin : minD [.int 59, .int (ns.length : Int)] = mok (.int (if (ns.length : Int) < 59 then (ns.length : Int) else 59)) := minD_int
      have hln : lenD [.list (ns.map PyData.int)] = mok (.int (ns.length : Int)) := by rw [lenD_list, List.length_map]
      simp only [dItA, dCons, dNil, dC, dCall, dVarS, List.getElem?_cons_zero, mbind_mok, hln, hmin, htop, hr]
    · rintro i d e hi ⟨a3, a4, a5, a6, rfl⟩
      obtain ⟨k, rfl, hk1, hk2⟩ := rngC_at (by omega) hi
      have hm0 : 0 ≤ cellF ns k % 999999999999999998 := Int.emod_nonneg _ (by omega)
      have hm1 : cellF ns k % 999999999999999998 < 999999999999999998 := Int.emod_lt_of_pos _ (by omega)
      obtain ⟨hw, hst⟩ := wds_ok wx lx ws ls (v := 2 + cellF ns k % 999999999999999998) (by omega) (by omega)
      generalize hW : (Wds.mk x s (TL.numL (2 + cellF ns k % 999999999999999998).toNat) (2 + cellF ns k % 999999999999999998)) = w at hw hst
      have hwx : fl w [.x] = x := by rw [← hW]; simp [fl, fl1]
      have hws : fl w [.s] = s := by rw [← hW]; simp [fl, fl1]
      have hwv : w.v = 2 + cellF ns k % 999999999999999998 := by rw [← hW]
      rw [← hwv] at hst
      obtain ⟨t, b, tok, hp⟩ := pair_ok hw hst ns (k := k) (by omega) hwv
      rw [hwx, hws] at hp
      have r1 := read_ok hw E t.bad
      have r2 := read_ok hw E t.good
      rw [tok.1] at r1
      rw [tok.2.1] at r2
      have r1 : G_read E [.str (T (fl w t.bad))] = Nt E := r1
      have r2 : G_read E [.str (T (fl w t.good))] = some (.ret false (conc w t.form)) := r2
      have hrf := refused_ok hE r1
      have hsm := same_ok 100 (conc w t.form) ((conc_pl w 22 t.form tok.2.2).mono (by omega))
      have hst1 : ∀ g (e : DEnv), stepO (gN 3) g (.int k) e = g (e.set 3 (some (.fz (.int k)))) := fun _ _ => rfl
      rw [hst1]
      refine wp_nx (e := [some (.fz (.list (ns.map .int))), some (.fz (.str (T x))), some (.fz (.str (T s))), some (.fz (.int k)), some (.fz (.str (T (fl w t.bad)))), some (.fz (.str (T (fl w t.good)))), some (.fz (conc w t.form)), none, none]) ?_ ?_
      · have hgl : ∀ e : DEnv, gL 3 (gCons' (gN 4) (gCons' (gN 5) (gCons' (gN 6) gNil'))) (.list (tr3 w t)) e = some (((e.set 4 (some (.fz (.str (T (fl w t.bad)))))).set 5 (some (.fz (.str (T (fl w t.good)))))).set 6 (some (.fz (conc w t.form)))) := fun _ => rfl
        simp only [dAsg, dFn, dCons, dNil, dVar, List.getElem?_cons_zero, List.getElem?_cons_succ, List.set_cons_zero, List.set_cons_succ, mbind_mok, List.append_nil, hp, ev_ret, eS_mok, hgl]
      · have hif : dIfS (dOr (dNot (dTst (dFn (fun ds => (G_l_refused E) (ds ++ [])) (dCons (dVar 4) dNil)))) (dOr (dNot (dTst (dFn (fun ds => (G_l_same 100) (ds ++ [])) (dCons (dFn (fun ds => (G_read E) (ds ++ [])) (dCons (dVar 5) dNil)) (dCons (dVar 6) dNil))))) (dNot (dTst (dFn (fun ds => (G_l_refused E) (ds ++ [])) (dCons (dVar 4) dNil)))))) (dRet (dC (.bool false))) dNx [some (.fz (.list (ns.map .int))), some (.fz (.str (T x))), some (.fz (.str (T s))), some (.fz (.int k)), some (.fz (.str (T (fl w t.bad)))), some (.fz (.str (T (fl w t.good)))), some (.fz (conc w t.form)), none, none] = some (.nx [some (.fz (.list (ns.map .int))), some (.fz (.str (T x))), some (.fz (.str (T s))), some (.fz (.int k)), some (.fz (.str (T (fl w t.bad)))), some (.fz (.str (T (fl w t.good)))), some (.fz (conc w t.form)), none, none]) := by
          refine dIfS_f ?_ rfl
          simp only [dOr, dNot, dTst, dFn, dCons, dNil, dVar, List.getElem?_cons_zero, List.getElem?_cons_succ, mbind_mok, List.append_nil, hrf, r2, hsm, ev_ret, asB_bool, Bool.not_true, Bool.false_eq_true, if_false]
        rw [hif]
        exact ⟨_, rfl, _, _, _, _, rfl⟩
    · rintro e ⟨a3, a4, a5, a6, rfl⟩
      exact ⟨_, rfl, _, _, _, _, rfl⟩
  · rintro e ⟨a3, a4, a5, a6, rfl⟩
    have cl := cell_ok ns 4 (by omega) (by omega)
    have hm : modD (.int (cellF ns 4)) (.int 1000) = mok (.int (cellF ns 4 % 1000)) := modD_int (by omega)
    refine wp_nx (e := [some (.fz (.list (ns.map .int))), some (.fz (.str (T x))), some (.fz (.str (T s))), a3, a4, a5, a6, some (.fz (.int (cellF ns 4 % 1000))), none]) ?_ ?_
    · simp only [dSet, d2, dFn, dCons, dNil, dVar, dVarS, dC, List.getElem?_cons_zero, List.getElem?_cons_succ, List.set_cons_zero, List.set_cons_succ, mbind_mok, List.append_nil, cl, hm, ev_ret, eS_mok]
    have no : ∀ d : D, isiX "str" d = mok (.bool false) → G_l_refused E [d] = some (.ret false (.bool true)) := fun d hd => refused_ok hE (read_ask E (ask_no E hd))
    refine wp_st (fun e => True) ?_ ?_
    · refine wp_for1 (ds := [.none, .int (cellF ns 4 % 1000), .tuple [.str "a", .str "b"], .list [.str "a"], .dict [], .tuple [.tuple [.tuple [.str "any", .str (T x)], .int 1]], .bool true]) rfl (fun i e => ∃ a8, e = [some (.fz (.list (ns.map .int))), some (.fz (.str (T x))), some (.fz (.str (T s))), a3, a4, a5, a6, some (.fz (.int (cellF ns 4 % 1000))), a8]) ⟨_, rfl⟩ ?_ ?_
      · rintro i d e hi ⟨a8, rfl⟩
        have hd : isiX "str" d = mok (.bool false) := by
          have hm := List.mem_of_getElem? hi
          simp only [List.mem_cons, List.not_mem_nil, or_false] at hm
          rcases hm with rfl | rfl | rfl | rfl | rfl | rfl | rfl <;> rfl
        have hr := no d hd
        have hst1 : ∀ g (e : DEnv), stepO (gN 8) g d e = g (e.set 8 (some (.fz d))) := fun _ _ => rfl
        rw [hst1]
        have hif : dIfS (dNot (dTst (dFn (fun ds => (G_l_refused E) (ds ++ [])) (dCons (dVar 8) dNil)))) (dRet (dC (.bool false))) dNx [some (.fz (.list (ns.map .int))), some (.fz (.str (T x))), some (.fz (.str (T s))), a3, a4, a5, a6, some (.fz (.int (cellF ns 4 % 1000))), some (.fz d)] = some (.nx [some (.fz (.list (ns.map .int))), some (.fz (.str (T x))), some (.fz (.str (T s))), a3, a4, a5, a6, some (.fz (.int (cellF ns 4 % 1000))), some (.fz d)]) := by
          refine dIfS_f ?_ rfl
          simp only [dNot, dTst, dFn, dCons, dNil, dVar, List.getElem?_cons_zero, List.getElem?_cons_succ, mbind_mok, List.append_nil, hr, ev_ret, asB_bool, Bool.not_true]
        simp only [List.set_cons_zero, List.set_cons_succ]
        rw [hif]
        exact ⟨_, rfl, _, rfl⟩
      · rintro e ⟨a8, rfl⟩
        exact ⟨_, rfl, trivial⟩
    · intro e _
      exact ⟨_, rfl, _, _, rfl, rfl⟩
end K14

namespace K14
open PySem PySem.Spec PyProof.Rows L2 DL
/-! ### what the top has written -/
set_option maxHeartbeats 0 in
theorem all_mk {P : Program} {w : World} {K : PySem.W.Frag} {h : Heap} {mg : Str → Option Value} {fa : Addr} (X : K.In h) (G : h.Ns mainGlobals mg) (hfa : mg "law" = some (.ref fa))
    {f0 : Addr} {od0 an0 : Option Addr} {sl0 : Array (Option Value)} {oc0 kV0 dc0 pm0 cd0 ct0 : Value}
    (a0 : PySem.W.nsIn K mainGlobals "plus" = some (some (.ref f0))) (l0 : K.lookup f0 = some ⟨oc0, od0, .func (PySem.W.fnOf "plus" "plus" (defArgs s_plus) (defBody s_plus) (defScope s_plus) .none kV0 dc0 pm0 an0 cd0 ct0), sl0⟩) (c0 : PySem.W.codeIn K cd0 "plus" = true) (k0 : PySem.W.keepIn K (.ref f0) = true)
    {f1 : Addr} {od1 an1 : Option Addr} {sl1 : Array (Option Value)} {oc1 kV1 dc1 pm1 cd1 ct1 : Value}
    (a1 : PySem.W.nsIn K mainGlobals "times" = some (some (.ref f1))) (l1 : K.lookup f1 = some ⟨oc1, od1, .func (PySem.W.fnOf "times" "times" (defArgs s_times) (defBody s_times) (defScope s_times) .none kV1 dc1 pm1 an1 cd1 ct1), sl1⟩) (c1 : PySem.W.codeIn K cd1 "times" = true) (k1 : PySem.W.keepIn K (.ref f1) = true)
    {f2 : Addr} {od2 an2 : Option Addr} {sl2 : Array (Option Value)} {oc2 kV2 dc2 pm2 cd2 ct2 : Value}
    (a2 : PySem.W.nsIn K mainGlobals "run_of" = some (some (.ref f2))) (l2 : K.lookup f2 = some ⟨oc2, od2, .func (PySem.W.fnOf "run_of" "run_of" (defArgs s_run_of) (defBody s_run_of) (defScope s_run_of) .none kV2 dc2 pm2 an2 cd2 ct2), sl2⟩) (c2 : PySem.W.codeIn K cd2 "run_of" = true) (k2 : PySem.W.keepIn K (.ref f2) = true)
    {f3 : Addr} {od3 an3 : Option Addr} {sl3 : Array (Option Value)} {oc3 kV3 dc3 pm3 cd3 ct3 : Value}
    (a3 : PySem.W.nsIn K mainGlobals "word_at" = some (some (.ref f3))) (l3 : K.lookup f3 = some ⟨oc3, od3, .func (PySem.W.fnOf "word_at" "word_at" (defArgs s_word_at) (defBody s_word_at) (defScope s_word_at) .none kV3 dc3 pm3 an3 cd3 ct3), sl3⟩) (c3 : PySem.W.codeIn K cd3 "word_at" = true) (k3 : PySem.W.keepIn K (.ref f3) = true)
    {f4 : Addr} {od4 an4 : Option Addr} {sl4 : Array (Option Value)} {oc4 kV4 dc4 pm4 cd4 ct4 : Value}
    (a4 : PySem.W.nsIn K mainGlobals "closed" = some (some (.ref f4))) (l4 : K.lookup f4 = some ⟨oc4, od4, .func (PySem.W.fnOf "closed" "closed" (defArgs s_closed) (defBody s_closed) (defScope s_closed) .none kV4 dc4 pm4 an4 cd4 ct4), sl4⟩) (c4 : PySem.W.codeIn K cd4 "closed" = true) (k4 : PySem.W.keepIn K (.ref f4) = true)
    {f5 : Addr} {od5 an5 : Option Addr} {sl5 : Array (Option Value)} {oc5 kV5 dc5 pm5 cd5 ct5 : Value}
    (a5 : PySem.W.nsIn K mainGlobals "thing_at" = some (some (.ref f5))) (l5 : K.lookup f5 = some ⟨oc5, od5, .func (PySem.W.fnOf "thing_at" "thing_at" (defArgs s_thing_at) (defBody s_thing_at) (defScope s_thing_at) .none kV5 dc5 pm5 an5 cd5 ct5), sl5⟩) (c5 : PySem.W.codeIn K cd5 "thing_at" = true) (k5 : PySem.W.keepIn K (.ref f5) = true)
    {f6 : Addr} {od6 an6 : Option Addr} {sl6 : Array (Option Value)} {oc6 kV6 dc6 pm6 cd6 ct6 : Value}
    (a6 : PySem.W.nsIn K mainGlobals "body_at" = some (some (.ref f6))) (l6 : K.lookup f6 = some ⟨oc6, od6, .func (PySem.W.fnOf "body_at" "body_at" (defArgs s_body_at) (defBody s_body_at) (defScope s_body_at) .none kV6 dc6 pm6 an6 cd6 ct6), sl6⟩) (c6 : PySem.W.codeIn K cd6 "body_at" = true) (k6 : PySem.W.keepIn K (.ref f6) = true)
    {f7 : Addr} {od7 an7 : Option Addr} {sl7 : Array (Option Value)} {oc7 kV7 dc7 pm7 cd7 ct7 : Value}
    (a7 : PySem.W.nsIn K mainGlobals "part_at" = some (some (.ref f7))) (l7 : K.lookup f7 = some ⟨oc7, od7, .func (PySem.W.fnOf "part_at" "part_at" (defArgs s_part_at) (defBody s_part_at) (defScope s_part_at) .none kV7 dc7 pm7 an7 cd7 ct7), sl7⟩) (c7 : PySem.W.codeIn K cd7 "part_at" = true) (k7 : PySem.W.keepIn K (.ref f7) = true)
    {f8 : Addr} {od8 an8 : Option Addr} {sl8 : Array (Option Value)} {oc8 kV8 dc8 pm8 cd8 ct8 : Value}
    (a8 : PySem.W.nsIn K mainGlobals "sum_at" = some (some (.ref f8))) (l8 : K.lookup f8 = some ⟨oc8, od8, .func (PySem.W.fnOf "sum_at" "sum_at" (defArgs s_sum_at) (defBody s_sum_at) (defScope s_sum_at) .none kV8 dc8 pm8 an8 cd8 ct8), sl8⟩) (c8 : PySem.W.codeIn K cd8 "sum_at" = true) (k8 : PySem.W.keepIn K (.ref f8) = true)
    {f9 : Addr} {od9 an9 : Option Addr} {sl9 : Array (Option Value)} {oc9 kV9 dc9 pm9 cd9 ct9 : Value}
    (a9 : PySem.W.nsIn K mainGlobals "ask_text" = some (some (.ref f9))) (l9 : K.lookup f9 = some ⟨oc9, od9, .func (PySem.W.fnOf "ask_text" "ask_text" (defArgs s_ask_text) (defBody s_ask_text) (defScope s_ask_text) .none kV9 dc9 pm9 an9 cd9 ct9), sl9⟩) (c9 : PySem.W.codeIn K cd9 "ask_text" = true) (k9 : PySem.W.keepIn K (.ref f9) = true)
    {f10 : Addr} {od10 an10 : Option Addr} {sl10 : Array (Option Value)} {oc10 kV10 dc10 pm10 cd10 ct10 : Value}
    (a10 : PySem.W.nsIn K mainGlobals "read" = some (some (.ref f10))) (l10 : K.lookup f10 = some ⟨oc10, od10, .func (PySem.W.fnOf "read" "read" (defArgs s_read) (defBody s_read) (defScope s_read) .none kV10 dc10 pm10 an10 cd10 ct10), sl10⟩) (c10 : PySem.W.codeIn K cd10 "read" = true) (k10 : PySem.W.keepIn K (.ref f10) = true)
    {f11 : Addr} {od11 an11 : Option Addr} {sl11 : Array (Option Value)} {oc11 kV11 dc11 pm11 cd11 ct11 : Value}
    (a11 : PySem.W.nsIn K mainGlobals "_law_cell" = some (some (.ref f11))) (l11 : K.lookup f11 = some ⟨oc11, od11, .func (PySem.W.fnOf "_law_cell" "_law_cell" (defArgs s_l_cell) (defBody s_l_cell) (defScope s_l_cell) .none kV11 dc11 pm11 an11 cd11 ct11), sl11⟩) (c11 : PySem.W.codeIn K cd11 "_law_cell" = true) (k11 : PySem.W.keepIn K (.ref f11) = true)
    {f12 : Addr} {od12 an12 : Option Addr} {sl12 : Array (Option Value)} {oc12 kV12 dc12 pm12 cd12 ct12 : Value}
    (a12 : PySem.W.nsIn K mainGlobals "_law_pick" = some (some (.ref f12))) (l12 : K.lookup f12 = some ⟨oc12, od12, .func (PySem.W.fnOf "_law_pick" "_law_pick" (defArgs s_l_pick) (defBody s_l_pick) (defScope s_l_pick) .none kV12 dc12 pm12 an12 cd12 ct12), sl12⟩) (c12 : PySem.W.codeIn K cd12 "_law_pick" = true) (k12 : PySem.W.keepIn K (.ref f12) = true)
    {f13 : Addr} {od13 an13 : Option Addr} {sl13 : Array (Option Value)} {oc13 kV13 dc13 pm13 cd13 ct13 : Value}
    (a13 : PySem.W.nsIn K mainGlobals "_law_names" = some (some (.ref f13))) (l13 : K.lookup f13 = some ⟨oc13, od13, .func (PySem.W.fnOf "_law_names" "_law_names" (defArgs s_l_names) (defBody s_l_names) (defScope s_l_names) .none kV13 dc13 pm13 an13 cd13 ct13), sl13⟩) (c13 : PySem.W.codeIn K cd13 "_law_names" = true) (k13 : PySem.W.keepIn K (.ref f13) = true)
    {f14 : Addr} {od14 an14 : Option Addr} {sl14 : Array (Option Value)} {oc14 kV14 dc14 pm14 cd14 ct14 : Value}
    (a14 : PySem.W.nsIn K mainGlobals "_law_unknowns" = some (some (.ref f14))) (l14 : K.lookup f14 = some ⟨oc14, od14, .func (PySem.W.fnOf "_law_unknowns" "_law_unknowns" (defArgs s_l_unknowns) (defBody s_l_unknowns) (defScope s_l_unknowns) .none kV14 dc14 pm14 an14 cd14 ct14), sl14⟩) (c14 : PySem.W.codeIn K cd14 "_law_unknowns" = true) (k14 : PySem.W.keepIn K (.ref f14) = true)
    {f15 : Addr} {od15 an15 : Option Addr} {sl15 : Array (Option Value)} {oc15 kV15 dc15 pm15 cd15 ct15 : Value}
    (a15 : PySem.W.nsIn K mainGlobals "_law_signs" = some (some (.ref f15))) (l15 : K.lookup f15 = some ⟨oc15, od15, .func (PySem.W.fnOf "_law_signs" "_law_signs" (defArgs s_l_signs) (defBody s_l_signs) (defScope s_l_signs) .none kV15 dc15 pm15 an15 cd15 ct15), sl15⟩) (c15 : PySem.W.codeIn K cd15 "_law_signs" = true) (k15 : PySem.W.keepIn K (.ref f15) = true)
    {f16 : Addr} {od16 an16 : Option Addr} {sl16 : Array (Option Value)} {oc16 kV16 dc16 pm16 cd16 ct16 : Value}
    (a16 : PySem.W.nsIn K mainGlobals "_law_same" = some (some (.ref f16))) (l16 : K.lookup f16 = some ⟨oc16, od16, .func (PySem.W.fnOf "_law_same" "_law_same" (defArgs s_l_same) (defBody s_l_same) (defScope s_l_same) .none kV16 dc16 pm16 an16 cd16 ct16), sl16⟩) (c16 : PySem.W.codeIn K cd16 "_law_same" = true) (k16 : PySem.W.keepIn K (.ref f16) = true)
    {f17 : Addr} {od17 an17 : Option Addr} {sl17 : Array (Option Value)} {oc17 kV17 dc17 pm17 cd17 ct17 : Value}
    (a17 : PySem.W.nsIn K mainGlobals "_law_refused" = some (some (.ref f17))) (l17 : K.lookup f17 = some ⟨oc17, od17, .func (PySem.W.fnOf "_law_refused" "_law_refused" (defArgs s_l_refused) (defBody s_l_refused) (defScope s_l_refused) .none kV17 dc17 pm17 an17 cd17 ct17), sl17⟩) (c17 : PySem.W.codeIn K cd17 "_law_refused" = true) (k17 : PySem.W.keepIn K (.ref f17) = true)
    {f18 : Addr} {od18 an18 : Option Addr} {sl18 : Array (Option Value)} {oc18 kV18 dc18 pm18 cd18 ct18 : Value}
    (a18 : PySem.W.nsIn K mainGlobals "_law_any" = some (some (.ref f18))) (l18 : K.lookup f18 = some ⟨oc18, od18, .func (PySem.W.fnOf "_law_any" "_law_any" (defArgs s_l_any) (defBody s_l_any) (defScope s_l_any) .none kV18 dc18 pm18 an18 cd18 ct18), sl18⟩) (c18 : PySem.W.codeIn K cd18 "_law_any" = true) (k18 : PySem.W.keepIn K (.ref f18) = true)
    {f19 : Addr} {od19 an19 : Option Addr} {sl19 : Array (Option Value)} {oc19 kV19 dc19 pm19 cd19 ct19 : Value}
    (a19 : PySem.W.nsIn K mainGlobals "_law_of" = some (some (.ref f19))) (l19 : K.lookup f19 = some ⟨oc19, od19, .func (PySem.W.fnOf "_law_of" "_law_of" (defArgs s_l_of) (defBody s_l_of) (defScope s_l_of) .none kV19 dc19 pm19 an19 cd19 ct19), sl19⟩) (c19 : PySem.W.codeIn K cd19 "_law_of" = true) (k19 : PySem.W.keepIn K (.ref f19) = true)
    {f20 : Addr} {od20 an20 : Option Addr} {sl20 : Array (Option Value)} {oc20 kV20 dc20 pm20 cd20 ct20 : Value}
    (a20 : PySem.W.nsIn K mainGlobals "_law_by_number" = some (some (.ref f20))) (l20 : K.lookup f20 = some ⟨oc20, od20, .func (PySem.W.fnOf "_law_by_number" "_law_by_number" (defArgs s_l_by_number) (defBody s_l_by_number) (defScope s_l_by_number) .none kV20 dc20 pm20 an20 cd20 ct20), sl20⟩) (c20 : PySem.W.codeIn K cd20 "_law_by_number" = true) (k20 : PySem.W.keepIn K (.ref f20) = true)
    {f21 : Addr} {od21 an21 : Option Addr} {sl21 : Array (Option Value)} {oc21 kV21 dc21 pm21 cd21 ct21 : Value}
    (a21 : PySem.W.nsIn K mainGlobals "_law_by_word" = some (some (.ref f21))) (l21 : K.lookup f21 = some ⟨oc21, od21, .func (PySem.W.fnOf "_law_by_word" "_law_by_word" (defArgs s_l_by_word) (defBody s_l_by_word) (defScope s_l_by_word) .none kV21 dc21 pm21 an21 cd21 ct21), sl21⟩) (c21 : PySem.W.codeIn K cd21 "_law_by_word" = true) (k21 : PySem.W.keepIn K (.ref f21) = true)
    {f22 : Addr} {od22 an22 : Option Addr} {sl22 : Array (Option Value)} {oc22 kV22 dc22 pm22 cd22 ct22 : Value}
    (a22 : PySem.W.nsIn K mainGlobals "_law_by_plus" = some (some (.ref f22))) (l22 : K.lookup f22 = some ⟨oc22, od22, .func (PySem.W.fnOf "_law_by_plus" "_law_by_plus" (defArgs s_l_by_plus) (defBody s_l_by_plus) (defScope s_l_by_plus) .none kV22 dc22 pm22 an22 cd22 ct22), sl22⟩) (c22 : PySem.W.codeIn K cd22 "_law_by_plus" = true) (k22 : PySem.W.keepIn K (.ref f22) = true)
    {f23 : Addr} {od23 an23 : Option Addr} {sl23 : Array (Option Value)} {oc23 kV23 dc23 pm23 cd23 ct23 : Value}
    (a23 : PySem.W.nsIn K mainGlobals "_law_by_parts" = some (some (.ref f23))) (l23 : K.lookup f23 = some ⟨oc23, od23, .func (PySem.W.fnOf "_law_by_parts" "_law_by_parts" (defArgs s_l_by_parts) (defBody s_l_by_parts) (defScope s_l_by_parts) .none kV23 dc23 pm23 an23 cd23 ct23), sl23⟩) (c23 : PySem.W.codeIn K cd23 "_law_by_parts" = true) (k23 : PySem.W.keepIn K (.ref f23) = true)
    {f24 : Addr} {od24 an24 : Option Addr} {sl24 : Array (Option Value)} {oc24 kV24 dc24 pm24 cd24 ct24 : Value}
    (a24 : PySem.W.nsIn K mainGlobals "_law_by_size" = some (some (.ref f24))) (l24 : K.lookup f24 = some ⟨oc24, od24, .func (PySem.W.fnOf "_law_by_size" "_law_by_size" (defArgs s_l_by_size) (defBody s_l_by_size) (defScope s_l_by_size) .none kV24 dc24 pm24 an24 cd24 ct24), sl24⟩) (c24 : PySem.W.codeIn K cd24 "_law_by_size" = true) (k24 : PySem.W.keepIn K (.ref f24) = true)
    {f25 : Addr} {od25 an25 : Option Addr} {sl25 : Array (Option Value)} {oc25 kV25 dc25 pm25 cd25 ct25 : Value}
    (a25 : PySem.W.nsIn K mainGlobals "_law_within" = some (some (.ref f25))) (l25 : K.lookup f25 = some ⟨oc25, od25, .func (PySem.W.fnOf "_law_within" "_law_within" (defArgs s_l_within) (defBody s_l_within) (defScope s_l_within) .none kV25 dc25 pm25 an25 cd25 ct25), sl25⟩) (c25 : PySem.W.codeIn K cd25 "_law_within" = true) (k25 : PySem.W.keepIn K (.ref f25) = true)
    {f26 : Addr} {od26 an26 : Option Addr} {sl26 : Array (Option Value)} {oc26 kV26 dc26 pm26 cd26 ct26 : Value}
    (a26 : PySem.W.nsIn K mainGlobals "_law_pair" = some (some (.ref f26))) (l26 : K.lookup f26 = some ⟨oc26, od26, .func (PySem.W.fnOf "_law_pair" "_law_pair" (defArgs s_l_pair) (defBody s_l_pair) (defScope s_l_pair) .none kV26 dc26 pm26 an26 cd26 ct26), sl26⟩) (c26 : PySem.W.codeIn K cd26 "_law_pair" = true) (k26 : PySem.W.keepIn K (.ref f26) = true)
    {f27 : Addr} {od27 an27 : Option Addr} {sl27 : Array (Option Value)} {oc27 kV27 dc27 pm27 cd27 ct27 : Value}
    (a27 : PySem.W.nsIn K mainGlobals "law" = some (some (.ref f27))) (l27 : K.lookup f27 = some ⟨oc27, od27, .func (PySem.W.fnOf "law" "law" (defArgs s_law) (defBody s_law) (defScope s_law) .none kV27 dc27 pm27 an27 cd27 ct27), sl27⟩) (c27 : PySem.W.codeIn K cd27 "law" = true) (k27 : PySem.W.keepIn K (.ref f27) = true)
    (z_ValueError : PySem.W.nsIn K mainGlobals "ValueError" = some none)
    (z_bool : PySem.W.nsIn K mainGlobals "bool" = some none)
    (z_dict : PySem.W.nsIn K mainGlobals "dict" = some none)
    (z_int : PySem.W.nsIn K mainGlobals "int" = some none)
    (z_isinstance : PySem.W.nsIn K mainGlobals "isinstance" = some none)
    (z_len : PySem.W.nsIn K mainGlobals "len" = some none)
    (z_list : PySem.W.nsIn K mainGlobals "list" = some none)
    (z_max : PySem.W.nsIn K mainGlobals "max" = some none)
    (z_min : PySem.W.nsIn K mainGlobals "min" = some none)
    (z_range : PySem.W.nsIn K mainGlobals "range" = some none)
    (z_sorted : PySem.W.nsIn K mainGlobals "sorted" = some none)
    (z_str : PySem.W.nsIn K mainGlobals "str" = some none)
    (z_tuple : PySem.W.nsIn K mainGlobals "tuple" = some none)
    (z_zip : PySem.W.nsIn K mainGlobals "zip" = some none)
    {ct_CAPITAL : Tok} (c_CAPITAL : PySem.W.nsIn K mainGlobals "CAPITAL" = some (some (.str "ABCDEFGHIJKLMNOPQRSTUVWXYZ" ct_CAPITAL)))
    {ct_FIGURES : Tok} (c_FIGURES : PySem.W.nsIn K mainGlobals "FIGURES" = some (some (.str "0123456789" ct_FIGURES)))
    {ct_MOST_DEEP : Tok} (c_MOST_DEEP : PySem.W.nsIn K mainGlobals "MOST_DEEP" = some (some (.int 20 ct_MOST_DEEP)))
    {ct_MOST_FIGURES : Tok} (c_MOST_FIGURES : PySem.W.nsIn K mainGlobals "MOST_FIGURES" = some (some (.int 18 ct_MOST_FIGURES)))
    {ct_MOST_LETTERS : Tok} (c_MOST_LETTERS : PySem.W.nsIn K mainGlobals "MOST_LETTERS" = some (some (.int 6 ct_MOST_LETTERS)))
    {ct_MOST_SIGNS : Tok} (c_MOST_SIGNS : PySem.W.nsIn K mainGlobals "MOST_SIGNS" = some (some (.int 600 ct_MOST_SIGNS)))
    {ct_SMALL : Tok} (c_SMALL : PySem.W.nsIn K mainGlobals "SMALL" = some (some (.str "abcdefghijklmnopqrstuvwxyz" ct_SMALL)))
    {C_MixError : Addr} (ac_MixError : PySem.W.nsIn K mainGlobals "MixError" = some (some (.ref C_MixError)))
    {C_NoText : Addr} (ac_NoText : PySem.W.nsIn K mainGlobals "NoText" = some (some (.ref C_NoText)))
    {C_TooMany : Addr} (ac_TooMany : PySem.W.nsIn K mainGlobals "TooMany" = some (some (.ref C_TooMany)))
    {C_NoRow : Addr} (ac_NoRow : PySem.W.nsIn K mainGlobals "NoRow" = some (some (.ref C_NoRow)))
    {C_NoRule : Addr} (ac_NoRule : PySem.W.nsIn K mainGlobals "NoRule" = some (some (.ref C_NoRule)))
    (xq_NoText : PySem.W.excIn K C_NoText HandSPX.veTail "ValueError.__new__" = true) (xk_NoText : PySem.W.keepIn K (.ref C_NoText) = true) (xt_NoText : PySem.W.typeIn K (.ref C_NoText) = some (.type "type"))
    (x1_NoText : PySem.W.findIn K (.ref C_NoText) "__getattribute__" = some (some (.builtin "BaseException.__getattribute__"))) (x2_NoText : PySem.W.findIn K (.ref C_NoText) "__getattr__" = some none) (x3_NoText : PySem.W.subIn K (.ref C_NoText) (.type "BaseException") = some true) (x4_NoText : PySem.W.hasDictIn K C_NoText = true)
    (x5_NoText : PySem.W.findIn K (.ref C_NoText) "__class__" = some (some (.builtin "object.__class__"))) (x6_NoText : PySem.W.specialIn K (.builtin "object.__class__") "__get__" = some (some (.builtin "getset_descriptor.__get__"))) (x7_NoText : PySem.W.takesIn K (.builtin "object.__class__") = some true) (x8_NoText : PySem.W.mroIn K C_NoText (.type "object") = some true)
    (xv_NoText : PySem.W.kitOne K (.ref C_NoText) (.type "ValueError") = some true) (xm_NoText : PySem.W.exmOne K (.ref C_NoText) (.ref C_MixError) = some true)
    (kt_NoText_MixError : PySem.W.kitOne K (.ref C_NoText) (.ref C_MixError) = some true)
    (kt_NoText_NoText : PySem.W.kitOne K (.ref C_NoText) (.ref C_NoText) = some true)
    (kt_NoText_TooMany : PySem.W.kitOne K (.ref C_NoText) (.ref C_TooMany) = some false)
    (kt_NoText_NoRow : PySem.W.kitOne K (.ref C_NoText) (.ref C_NoRow) = some false)
    (kt_NoText_NoRule : PySem.W.kitOne K (.ref C_NoText) (.ref C_NoRule) = some false)
    : ∃ fd : FuncData, (∀ (s : Shared) (v : Value), BindsTo s fd ⟨[v], []⟩ [("_law_script", v)]) ∧ ∀ base : Heap, K.In base → base.Ns mainGlobals mg → FnOk P w K mg base (L2.CX P w) 101 fa fd ["_law_script"] (spE K w ["NoText"] G_law) := by
  have e : f27 = fa := by have z := (PySem.W.mg_of X G a27).symm.trans hfa; cases z; rfl
  subst e
  have F0 := fun_mk (st := s_plus) l0 c0 k0
  have F1 := fun_mk (st := s_times) l1 c1 k1
  have F2 := fun_mk (st := s_run_of) l2 c2 k2
  have F3 := fun_mk (st := s_word_at) l3 c3 k3
  have F4 := fun_mk (st := s_closed) l4 c4 k4
  have F5 := fun_mk (st := s_thing_at) l5 c5 k5
  have F6 := fun_mk (st := s_body_at) l6 c6 k6
  have F7 := fun_mk (st := s_part_at) l7 c7 k7
  have F8 := fun_mk (st := s_sum_at) l8 c8 k8
  have F9 := fun_mk (st := s_ask_text) l9 c9 k9
  have F10 := fun_mk (st := s_read) l10 c10 k10
  have F11 := fun_mk (st := s_l_cell) l11 c11 k11
  have F12 := fun_mk (st := s_l_pick) l12 c12 k12
  have F13 := fun_mk (st := s_l_names) l13 c13 k13
  have F14 := fun_mk (st := s_l_unknowns) l14 c14 k14
  have F15 := fun_mk (st := s_l_signs) l15 c15 k15
  have F16 := fun_mk (st := s_l_same) l16 c16 k16
  have F17 := fun_mk (st := s_l_refused) l17 c17 k17
  have F18 := fun_mk (st := s_l_any) l18 c18 k18
  have F19 := fun_mk (st := s_l_of) l19 c19 k19
  have F20 := fun_mk (st := s_l_by_number) l20 c20 k20
  have F21 := fun_mk (st := s_l_by_word) l21 c21 k21
  have F22 := fun_mk (st := s_l_by_plus) l22 c22 k22
  have F23 := fun_mk (st := s_l_by_parts) l23 c23 k23
  have F24 := fun_mk (st := s_l_by_size) l24 c24 k24
  have F25 := fun_mk (st := s_l_within) l25 c25 k25
  have F26 := fun_mk (st := s_l_pair) l26 c26 k26
  have F27 := fun_mk (st := s_law) l27 c27 k27
  let Ec : String → Addr := fun n => ([("MixError", C_MixError), ("NoText", C_NoText), ("TooMany", C_TooMany), ("NoRow", C_NoRow), ("NoRule", C_NoRule)].lookup n).getD 0
  let E : Errs := ⟨Ec, fun v => [(Value.ref C_NoText, "NoText")].lookup v⟩
  have eo : ErrsOk K mg E ["NoText"] ["MixError", "NoText", "TooMany", "NoRow", "NoRule"] := by
    refine ⟨?_, ?_, ?_, ?_, ?_, ?_⟩
    · intro n hn; simp only [List.mem_cons, List.not_mem_nil, or_false] at hn; rcases hn with rfl | rfl | rfl | rfl | rfl
      · exact PySem.W.mg_of X G ac_MixError
      · exact PySem.W.mg_of X G ac_NoText
      · exact PySem.W.mg_of X G ac_TooMany
      · exact PySem.W.mg_of X G ac_NoRow
      · exact PySem.W.mg_of X G ac_NoRule
    · intro v n h
      exact errs_nm (l := [(Value.ref C_NoText, "NoText")]) (Ec := Ec) (by intro p hp; simp only [List.mem_cons, List.not_mem_nil, or_false] at hp; rcases hp with rfl <;> exact ⟨by simp, rfl⟩) h
    · intro n hn; simp only [List.mem_cons, List.not_mem_nil, or_false] at hn; rcases hn with rfl
      · exact ⟨xq_NoText, xk_NoText, ⟨x1_NoText, x2_NoText, x3_NoText, x4_NoText, x5_NoText, x6_NoText, x7_NoText, x8_NoText⟩, xt_NoText⟩
    · intro n hn m hm; simp only [List.mem_cons, List.not_mem_nil, or_false] at hn hm; rcases hn with rfl <;> rcases hm with rfl | rfl | rfl | rfl | rfl
      · exact kt_NoText_MixError
      · exact kt_NoText_NoText
      · exact kt_NoText_TooMany
      · exact kt_NoText_NoRow
      · exact kt_NoText_NoRule
    · intro n hn; simp only [List.mem_cons, List.not_mem_nil, or_false] at hn; rcases hn with rfl
      · exact xv_NoText
    · intro n hn; simp only [List.mem_cons, List.not_mem_nil, or_false] at hn; rcases hn with rfl
      · exact xm_NoText
  have good : E.Good ["NoText"] := by
    intro n hn; simp only [List.mem_cons, List.not_mem_nil, or_false] at hn; rcases hn with rfl
    · show [(Value.ref C_NoText, "NoText")].lookup (Value.ref C_NoText) = some "NoText"; simp [List.lookup]
  have T : ∃ T : Top K mg, T.E = E ∧ T.f_law = f27 ∧ T.d_law = PySem.W.fnOf "law" "law" (defArgs s_law) (defBody s_law) (defScope s_law) .none kV27 dc27 pm27 an27 cd27 ct27 :=
    ⟨{ f_plus := f0, d_plus := (PySem.W.fnOf "plus" "plus" (defArgs s_plus) (defBody s_plus) (defScope s_plus) .none kV0 dc0 pm0 an0 cd0 ct0), F_plus := F0, b_plus := F0.binds (ps := ["one", "other"]) (fun _ _ _ _ _ _ us hl => match us, hl with | [_, _], _ => rfl), m_plus := PySem.W.mg_of X G a0,
        f_times := f1, d_times := (PySem.W.fnOf "times" "times" (defArgs s_times) (defBody s_times) (defScope s_times) .none kV1 dc1 pm1 an1 cd1 ct1), F_times := F1, b_times := F1.binds (ps := ["number", "form"]) (fun _ _ _ _ _ _ us hl => match us, hl with | [_, _], _ => rfl), m_times := PySem.W.mg_of X G a1,
        f_run_of := f2, d_run_of := (PySem.W.fnOf "run_of" "run_of" (defArgs s_run_of) (defBody s_run_of) (defScope s_run_of) .none kV2 dc2 pm2 an2 cd2 ct2), F_run_of := F2, b_run_of := F2.binds (ps := ["text", "at", "some"]) (fun _ _ _ _ _ _ us hl => match us, hl with | [_, _, _], _ => rfl), m_run_of := PySem.W.mg_of X G a2,
        f_word_at := f3, d_word_at := (PySem.W.fnOf "word_at" "word_at" (defArgs s_word_at) (defBody s_word_at) (defScope s_word_at) .none kV3 dc3 pm3 an3 cd3 ct3), F_word_at := F3, b_word_at := F3.binds (ps := ["text", "at", "letters"]) (fun _ _ _ _ _ _ us hl => match us, hl with | [_, _, _], _ => rfl), m_word_at := PySem.W.mg_of X G a3,
        f_closed := f4, d_closed := (PySem.W.fnOf "closed" "closed" (defArgs s_closed) (defBody s_closed) (defScope s_closed) .none kV4 dc4 pm4 an4 cd4 ct4), F_closed := F4, b_closed := F4.binds (ps := ["text", "at"]) (fun _ _ _ _ _ _ us hl => match us, hl with | [_, _], _ => rfl), m_closed := PySem.W.mg_of X G a4,
        f_thing_at := f5, d_thing_at := (PySem.W.fnOf "thing_at" "thing_at" (defArgs s_thing_at) (defBody s_thing_at) (defScope s_thing_at) .none kV5 dc5 pm5 an5 cd5 ct5), F_thing_at := F5, b_thing_at := F5.binds (ps := ["text", "at"]) (fun _ _ _ _ _ _ us hl => match us, hl with | [_, _], _ => rfl), m_thing_at := PySem.W.mg_of X G a5,
        f_body_at := f6, d_body_at := (PySem.W.fnOf "body_at" "body_at" (defArgs s_body_at) (defBody s_body_at) (defScope s_body_at) .none kV6 dc6 pm6 an6 cd6 ct6), F_body_at := F6, b_body_at := F6.binds (ps := ["text", "at"]) (fun _ _ _ _ _ _ us hl => match us, hl with | [_, _], _ => rfl), m_body_at := PySem.W.mg_of X G a6,
        f_part_at := f7, d_part_at := (PySem.W.fnOf "part_at" "part_at" (defArgs s_part_at) (defBody s_part_at) (defScope s_part_at) .none kV7 dc7 pm7 an7 cd7 ct7), F_part_at := F7, b_part_at := F7.binds (ps := ["text", "at"]) (fun _ _ _ _ _ _ us hl => match us, hl with | [_, _], _ => rfl), m_part_at := PySem.W.mg_of X G a7,
        f_sum_at := f8, d_sum_at := (PySem.W.fnOf "sum_at" "sum_at" (defArgs s_sum_at) (defBody s_sum_at) (defScope s_sum_at) .none kV8 dc8 pm8 an8 cd8 ct8), F_sum_at := F8, b_sum_at := F8.binds (ps := ["text", "at"]) (fun _ _ _ _ _ _ us hl => match us, hl with | [_, _], _ => rfl), m_sum_at := PySem.W.mg_of X G a8,
        f_ask_text := f9, d_ask_text := (PySem.W.fnOf "ask_text" "ask_text" (defArgs s_ask_text) (defBody s_ask_text) (defScope s_ask_text) .none kV9 dc9 pm9 an9 cd9 ct9), F_ask_text := F9, b_ask_text := F9.binds (ps := ["text"]) (fun _ _ _ _ _ _ us hl => match us, hl with | [_], _ => rfl), m_ask_text := PySem.W.mg_of X G a9,
        f_read := f10, d_read := (PySem.W.fnOf "read" "read" (defArgs s_read) (defBody s_read) (defScope s_read) .none kV10 dc10 pm10 an10 cd10 ct10), F_read := F10, b_read := F10.binds (ps := ["text"]) (fun _ _ _ _ _ _ us hl => match us, hl with | [_], _ => rfl), m_read := PySem.W.mg_of X G a10,
        f_l_cell := f11, d_l_cell := (PySem.W.fnOf "_law_cell" "_law_cell" (defArgs s_l_cell) (defBody s_l_cell) (defScope s_l_cell) .none kV11 dc11 pm11 an11 cd11 ct11), F_l_cell := F11, b_l_cell := F11.binds (ps := ["_law_script", "_law_k"]) (fun _ _ _ _ _ _ us hl => match us, hl with | [_, _], _ => rfl), m_l_cell := PySem.W.mg_of X G a11,
        f_l_pick := f12, d_l_pick := (PySem.W.fnOf "_law_pick" "_law_pick" (defArgs s_l_pick) (defBody s_l_pick) (defScope s_l_pick) .none kV12 dc12 pm12 an12 cd12 ct12), F_l_pick := F12, b_l_pick := F12.binds (ps := ["_law_script", "_law_k", "_law_many"]) (fun _ _ _ _ _ _ us hl => match us, hl with | [_, _, _], _ => rfl), m_l_pick := PySem.W.mg_of X G a12,
        f_l_names := f13, d_l_names := (PySem.W.fnOf "_law_names" "_law_names" (defArgs s_l_names) (defBody s_l_names) (defScope s_l_names) .none kV13 dc13 pm13 an13 cd13 ct13), F_l_names := F13, b_l_names := F13.binds (ps := ["_law_script", "_law_k", "_law_letters"]) (fun _ _ _ _ _ _ us hl => match us, hl with | [_, _, _], _ => rfl), m_l_names := PySem.W.mg_of X G a13,
        f_l_unknowns := f14, d_l_unknowns := (PySem.W.fnOf "_law_unknowns" "_law_unknowns" (defArgs s_l_unknowns) (defBody s_l_unknowns) (defScope s_l_unknowns) .none kV14 dc14 pm14 an14 cd14 ct14), F_l_unknowns := F14, b_l_unknowns := F14.binds (ps := ["_law_script", "_law_k"]) (fun _ _ _ _ _ _ us hl => match us, hl with | [_, _], _ => rfl), m_l_unknowns := PySem.W.mg_of X G a14,
        f_l_signs := f15, d_l_signs := (PySem.W.fnOf "_law_signs" "_law_signs" (defArgs s_l_signs) (defBody s_l_signs) (defScope s_l_signs) .none kV15 dc15 pm15 an15 cd15 ct15), F_l_signs := F15, b_l_signs := F15.binds (ps := ["_law_script", "_law_k"]) (fun _ _ _ _ _ _ us hl => match us, hl with | [_, _], _ => rfl), m_l_signs := PySem.W.mg_of X G a15,
        f_l_same := f16, d_l_same := (PySem.W.fnOf "_law_same" "_law_same" (defArgs s_l_same) (defBody s_l_same) (defScope s_l_same) .none kV16 dc16 pm16 an16 cd16 ct16), F_l_same := F16, b_l_same := F16.binds (ps := ["_law_found", "_law_due"]) (fun _ _ _ _ _ _ us hl => match us, hl with | [_, _], _ => rfl), m_l_same := PySem.W.mg_of X G a16,
        f_l_refused := f17, d_l_refused := (PySem.W.fnOf "_law_refused" "_law_refused" (defArgs s_l_refused) (defBody s_l_refused) (defScope s_l_refused) .none kV17 dc17 pm17 an17 cd17 ct17), F_l_refused := F17, b_l_refused := F17.binds (ps := ["_law_thing"]) (fun _ _ _ _ _ _ us hl => match us, hl with | [_], _ => rfl), m_l_refused := PySem.W.mg_of X G a17,
        f_l_any := f18, d_l_any := (PySem.W.fnOf "_law_any" "_law_any" (defArgs s_l_any) (defBody s_l_any) (defScope s_l_any) .none kV18 dc18 pm18 an18 cd18 ct18), F_l_any := F18, b_l_any := F18.binds (ps := ["_law_name", "_law_count"]) (fun _ _ _ _ _ _ us hl => match us, hl with | [_, _], _ => rfl), m_l_any := PySem.W.mg_of X G a18,
        f_l_of := f19, d_l_of := (PySem.W.fnOf "_law_of" "_law_of" (defArgs s_l_of) (defBody s_l_of) (defScope s_l_of) .none kV19 dc19 pm19 an19 cd19 ct19), F_l_of := F19, b_l_of := F19.binds (ps := ["_law_sign", "_law_parts"]) (fun _ _ _ _ _ _ us hl => match us, hl with | [_, _], _ => rfl), m_l_of := PySem.W.mg_of X G a19,
        f_l_by_number := f20, d_l_by_number := (PySem.W.fnOf "_law_by_number" "_law_by_number" (defArgs s_l_by_number) (defBody s_l_by_number) (defScope s_l_by_number) .none kV20 dc20 pm20 an20 cd20 ct20), F_l_by_number := F20, b_l_by_number := F20.binds (ps := ["_law_way", "_law_x", "_law_s", "_law_number"]) (fun _ _ _ _ _ _ us hl => match us, hl with | [_, _, _, _], _ => rfl), m_l_by_number := PySem.W.mg_of X G a20,
        f_l_by_word := f21, d_l_by_word := (PySem.W.fnOf "_law_by_word" "_law_by_word" (defArgs s_l_by_word) (defBody s_l_by_word) (defScope s_l_by_word) .none kV21 dc21 pm21 an21 cd21 ct21), F_l_by_word := F21, b_l_by_word := F21.binds (ps := ["_law_way", "_law_x", "_law_s"]) (fun _ _ _ _ _ _ us hl => match us, hl with | [_, _, _], _ => rfl), m_l_by_word := PySem.W.mg_of X G a21,
        f_l_by_plus := f22, d_l_by_plus := (PySem.W.fnOf "_law_by_plus" "_law_by_plus" (defArgs s_l_by_plus) (defBody s_l_by_plus) (defScope s_l_by_plus) .none kV22 dc22 pm22 an22 cd22 ct22), F_l_by_plus := F22, b_l_by_plus := F22.binds (ps := ["_law_way", "_law_x", "_law_s"]) (fun _ _ _ _ _ _ us hl => match us, hl with | [_, _, _], _ => rfl), m_l_by_plus := PySem.W.mg_of X G a22,
        f_l_by_parts := f23, d_l_by_parts := (PySem.W.fnOf "_law_by_parts" "_law_by_parts" (defArgs s_l_by_parts) (defBody s_l_by_parts) (defScope s_l_by_parts) .none kV23 dc23 pm23 an23 cd23 ct23), F_l_by_parts := F23, b_l_by_parts := F23.binds (ps := ["_law_way", "_law_x", "_law_s"]) (fun _ _ _ _ _ _ us hl => match us, hl with | [_, _, _], _ => rfl), m_l_by_parts := PySem.W.mg_of X G a23,
        f_l_by_size := f24, d_l_by_size := (PySem.W.fnOf "_law_by_size" "_law_by_size" (defArgs s_l_by_size) (defBody s_l_by_size) (defScope s_l_by_size) .none kV24 dc24 pm24 an24 cd24 ct24), F_l_by_size := F24, b_l_by_size := F24.binds (ps := ["_law_way", "_law_x", "_law_s"]) (fun _ _ _ _ _ _ us hl => match us, hl with | [_, _, _], _ => rfl), m_l_by_size := PySem.W.mg_of X G a24,
        f_l_within := f25, d_l_within := (PySem.W.fnOf "_law_within" "_law_within" (defArgs s_l_within) (defBody s_l_within) (defScope s_l_within) .none kV25 dc25 pm25 an25 cd25 ct25), F_l_within := F25, b_l_within := F25.binds (ps := ["_law_way", "_law_x", "_law_s", "_law_told"]) (fun _ _ _ _ _ _ us hl => match us, hl with | [_, _, _, _], _ => rfl), m_l_within := PySem.W.mg_of X G a25,
        f_l_pair := f26, d_l_pair := (PySem.W.fnOf "_law_pair" "_law_pair" (defArgs s_l_pair) (defBody s_l_pair) (defScope s_l_pair) .none kV26 dc26 pm26 an26 cd26 ct26), F_l_pair := F26, b_l_pair := F26.binds (ps := ["_law_script", "_law_k", "_law_x", "_law_s"]) (fun _ _ _ _ _ _ us hl => match us, hl with | [_, _, _, _], _ => rfl), m_l_pair := PySem.W.mg_of X G a26,
        f_law := f27, d_law := (PySem.W.fnOf "law" "law" (defArgs s_law) (defBody s_law) (defScope s_law) .none kV27 dc27 pm27 an27 cd27 ct27), F_law := F27, b_law := F27.binds (ps := ["_law_script"]) (fun _ _ _ _ _ _ us hl => match us, hl with | [_], _ => rfl), m_law := PySem.W.mg_of X G a27,
        z_ValueError := PySem.W.mg_none_of X G z_ValueError,
        z_bool := PySem.W.mg_none_of X G z_bool,
        z_dict := PySem.W.mg_none_of X G z_dict,
        z_int := PySem.W.mg_none_of X G z_int,
        z_isinstance := PySem.W.mg_none_of X G z_isinstance,
        z_len := PySem.W.mg_none_of X G z_len,
        z_list := PySem.W.mg_none_of X G z_list,
        z_max := PySem.W.mg_none_of X G z_max,
        z_min := PySem.W.mg_none_of X G z_min,
        z_range := PySem.W.mg_none_of X G z_range,
        z_sorted := PySem.W.mg_none_of X G z_sorted,
        z_str := PySem.W.mg_none_of X G z_str,
        z_tuple := PySem.W.mg_none_of X G z_tuple,
        z_zip := PySem.W.mg_none_of X G z_zip,
        c_CAPITAL := ⟨ct_CAPITAL, PySem.W.mg_of X G c_CAPITAL⟩,
        c_FIGURES := ⟨ct_FIGURES, PySem.W.mg_of X G c_FIGURES⟩,
        c_MOST_DEEP := ⟨ct_MOST_DEEP, PySem.W.mg_of X G c_MOST_DEEP⟩,
        c_MOST_FIGURES := ⟨ct_MOST_FIGURES, PySem.W.mg_of X G c_MOST_FIGURES⟩,
        c_MOST_LETTERS := ⟨ct_MOST_LETTERS, PySem.W.mg_of X G c_MOST_LETTERS⟩,
        c_MOST_SIGNS := ⟨ct_MOST_SIGNS, PySem.W.mg_of X G c_MOST_SIGNS⟩,
        c_SMALL := ⟨ct_SMALL, PySem.W.mg_of X G c_SMALL⟩,
        E := E, eo := eo }, rfl, rfl, rfl⟩
  obtain ⟨T, e0, e1, e2⟩ := T
  refine ⟨PySem.W.fnOf "law" "law" (defArgs s_law) (defBody s_law) (defScope s_law) .none kV27 dc27 pm27 an27 cd27 ct27, fun s v => .of_eq rfl, fun base _ _ => ?_⟩
  have := ok_law (P := P) (w := w) (base := base) T
  rw [e1, e2, e0] at this
  exact spE_ok good this
end K14
open PySem PySem.W PyProof.Rows
set_option maxHeartbeats 0 in
theorem PySem.Challenge.cw_mixform_k14_no_text_holds : PySem.Challenge.rw_mixform_k14_no_text.Holds := by
  w_on; o_law; k_head; (case hw => w_witness2)
  k_fill
  refine L2.walk_of (l := PySem.Challenge.rw_mixform_k14_no_text) (n := 63) (k := 101) (x := "_law_script") (CX := fun w => L2.CX PySem.Challenge.pw_mixform_k14_no_text w) (sp := fun w => DL.spE _ w ["NoText"] K14.G_law) rfl (by decide) rfl ⟨rfl, by decide, by decide⟩ (fun w h Y => PySem.W.kIn_of Y) ?F (fun _ _ a ns hl _ hS => DL.law_spE hS (fun E hE => K14.law_ok E hE ns hl)) (fun _ _ _ _ _ h => DL.cx_no h)
  case F =>
    intro w mg fa h KX G hmg
    refine' K14.all_mk KX G hmg ?a0 ?l0 ?c0 ?k0 ?a1 ?l1 ?c1 ?k1 ?a2 ?l2 ?c2 ?k2 ?a3 ?l3 ?c3 ?k3 ?a4 ?l4 ?c4 ?k4 ?a5 ?l5 ?c5 ?k5 ?a6 ?l6 ?c6 ?k6 ?a7 ?l7 ?c7 ?k7 ?a8 ?l8 ?c8 ?k8 ?a9 ?l9 ?c9 ?k9 ?a10 ?l10 ?c10 ?k10 ?a11 ?l11 ?c11 ?k11 ?a12 ?l12 ?c12 ?k12 ?a13 ?l13 ?c13 ?k13 ?a14 ?l14 ?c14 ?k14 ?a15 ?l15 ?c15 ?k15 ?a16 ?l16 ?c16 ?k16 ?a17 ?l17 ?c17 ?k17 ?a18 ?l18 ?c18 ?k18 ?a19 ?l19 ?c19 ?k19 ?a20 ?l20 ?c20 ?k20 ?a21 ?l21 ?c21 ?k21 ?a22 ?l22 ?c22 ?k22 ?a23 ?l23 ?c23 ?k23 ?a24 ?l24 ?c24 ?k24 ?a25 ?l25 ?c25 ?k25 ?a26 ?l26 ?c26 ?k26 ?a27 ?l27 ?c27 ?k27 ?z_ValueError ?z_bool ?z_dict ?z_int ?z_isinstance ?z_len ?z_list ?z_max ?z_min ?z_range ?z_sorted ?z_str ?z_tuple ?z_zip ?c_CAPITAL ?c_FIGURES ?c_MOST_DEEP ?c_MOST_FIGURES ?c_MOST_LETTERS ?c_MOST_SIGNS ?c_SMALL ?ac_MixError ?ac_NoText ?ac_TooMany ?ac_NoRow ?ac_NoRule ?xq_NoText ?xk_NoText ?xt_NoText ?x1_NoText ?x2_NoText ?x3_NoText ?x4_NoText ?x5_NoText ?x6_NoText ?x7_NoText ?x8_NoText ?xv_NoText ?xm_NoText ?kt_NoText_MixError ?kt_NoText_NoText ?kt_NoText_TooMany ?kt_NoText_NoRow ?kt_NoText_NoRule
    (case a0 => k_is); (case l0 => k_is); (case c0 => k_is); (case k0 => k_is); (case a1 => k_is); (case l1 => k_is); (case c1 => k_is); (case k1 => k_is); (case a2 => k_is); (case l2 => k_is); (case c2 => k_is); (case k2 => k_is); (case a3 => k_is); (case l3 => k_is); (case c3 => k_is); (case k3 => k_is); (case a4 => k_is); (case l4 => k_is); (case c4 => k_is); (case k4 => k_is); (case a5 => k_is); (case l5 => k_is); (case c5 => k_is); (case k5 => k_is); (case a6 => k_is); (case l6 => k_is); (case c6 => k_is); (case k6 => k_is); (case a7 => k_is); (case l7 => k_is); (case c7 => k_is); (case k7 => k_is); (case a8 => k_is); (case l8 => k_is); (case c8 => k_is); (case k8 => k_is); (case a9 => k_is); (case l9 => k_is); (case c9 => k_is); (case k9 => k_is); (case a10 => k_is); (case l10 => k_is); (case c10 => k_is); (case k10 => k_is); (case a11 => k_is); (case l11 => k_is); (case c11 => k_is); (case k11 => k_is); (case a12 => k_is); (case l12 => k_is); (case c12 => k_is); (case k12 => k_is); (case a13 => k_is); (case l13 => k_is); (case c13 => k_is); (case k13 => k_is); (case a14 => k_is); (case l14 => k_is); (case c14 => k_is); (case k14 => k_is); (case a15 => k_is); (case l15 => k_is); (case c15 => k_is); (case k15 => k_is); (case a16 => k_is); (case l16 => k_is); (case c16 => k_is); (case k16 => k_is); (case a17 => k_is); (case l17 => k_is); (case c17 => k_is); (case k17 => k_is); (case a18 => k_is); (case l18 => k_is); (case c18 => k_is); (case k18 => k_is); (case a19 => k_is); (case l19 => k_is); (case c19 => k_is); (case k19 => k_is); (case a20 => k_is); (case l20 => k_is); (case c20 => k_is); (case k20 => k_is); (case a21 => k_is); (case l21 => k_is); (case c21 => k_is); (case k21 => k_is); (case a22 => k_is); (case l22 => k_is); (case c22 => k_is); (case k22 => k_is); (case a23 => k_is); (case l23 => k_is); (case c23 => k_is); (case k23 => k_is); (case a24 => k_is); (case l24 => k_is); (case c24 => k_is); (case k24 => k_is); (case a25 => k_is); (case l25 => k_is); (case c25 => k_is); (case k25 => k_is); (case a26 => k_is); (case l26 => k_is); (case c26 => k_is); (case k26 => k_is); (case a27 => k_is); (case l27 => k_is); (case c27 => k_is); (case k27 => k_is); (case z_ValueError => k_is); (case z_bool => k_is); (case z_dict => k_is); (case z_int => k_is); (case z_isinstance => k_is); (case z_len => k_is); (case z_list => k_is); (case z_max => k_is); (case z_min => k_is); (case z_range => k_is); (case z_sorted => k_is); (case z_str => k_is); (case z_tuple => k_is); (case z_zip => k_is); (case c_CAPITAL => k_is); (case c_FIGURES => k_is); (case c_MOST_DEEP => k_is); (case c_MOST_FIGURES => k_is); (case c_MOST_LETTERS => k_is); (case c_MOST_SIGNS => k_is); (case c_SMALL => k_is); (case ac_MixError => k_is); (case ac_NoText => k_is); (case ac_TooMany => k_is); (case ac_NoRow => k_is); (case ac_NoRule => k_is); (case xq_NoText => k_exc); (case xk_NoText => k_is); (case xt_NoText => k_is); (case x1_NoText => k_is); (case x2_NoText => k_is); (case x3_NoText => k_is); (case x4_NoText => k_is); (case x5_NoText => k_is); (case x6_NoText => k_is); (case x7_NoText => k_is); (case x8_NoText => k_is); (case xv_NoText => kit_is); (case xm_NoText => kts_exm); (case kt_NoText_MixError => kit_is); (case kt_NoText_NoText => kit_is); (case kt_NoText_TooMany => kit_is); (case kt_NoText_NoRow => kit_is); (case kt_NoText_NoRule => kit_is)

