import PyProof.Rows.All
import Wide.All
import OpenK.AllK
import Wide.FinOn
import HandS.ForMost
import HandS.Exc
import HandS.Lambda
import HandS.Flow
import HandS.ExcOwn
import HandS.Defaults
import HandS.TupAny
import HandS.TupMul
import HandS.Wide
import PyProof.StrOps2
import HandS.Deep
import HandS.DictTup
import HandS.Small
import HandS.Iter
import KE.GoesEnum
import KE.GoesMore
import HandS.Zip
import HandS.Strs
import HandS.SetFor
import HandS.SortInts
import PyProof.Rows.SetFrom
import KE.SortData
import HandS.Conv
import HandS.TupLen
import HandS.WordsDict
import HandS.IsInst
import PyProof.ReprRoads
import PyProof.CallFns
import HandS.ExcIs
import KE.KExcIs
import HandS.ExcField
import HandS.Codes
import KE.KExcSuper
import HandS.ExcInit
import KE.SortCalls
import KE.KDictSum
import HandS.ExcValue
import KE.KTryMore
import KE.KLam
import HandS.HeadHook4
import HandS.EndTab
import HandS.Head2
import PyProof.StrLawsRepr
import KE.KStateDown
import PySem.Challenge.RW_noghostleft_k86_what_inks_and_wishes_ref
set_option Elab.async false
set_option linter.all false
set_option autoImplicit false
set_option maxRecDepth 100000
/-! Z1: data of the evaluator, the store, the relation to the layer's heap. -/
namespace Z
open PySem PySem.Spec PyProof.Rows L2

/-- a value: tuples inline, mutable things by their place in the store -/
inductive D where
  | non
  | bl (b : Bool)
  | int (i : Int)
  | str (x : Str)
  | tup (xs : List D)
  | ktp (xs : List D)
  | loc (k : Nat)
  | exc (c : Nat) (v : D)
  | sq (xs : List D)
  | lam (k : Nat)
  deriving Inhabited

/-- what stands in the store -/
inductive Ob where
  | lst (xs : List D)
  | dk (kvs : List (Key × D))
  | dt (kvs : List (List Key × D))
  | fz (o : Ob)
  | ins (c : Nat) (fs : List (Str × D))
  | hid

structure Sto where
  n : Nat
  l : List Ob
  cv : Option (List (Str × D))
def Sto.get (S : Sto) (k : Nat) : Option Ob := if k < S.n then S.l[S.n - 1 - k]? else none
def Sto.push (S : Sto) (o : Ob) : Sto := ⟨S.n + 1, o :: S.l, S.cv⟩
def Sto.set (S : Sto) (k : Nat) (o : Ob) : Sto := ⟨S.n, S.l.set (S.n - 1 - k) o, S.cv⟩
abbrev En := List (Option D)
abbrev St := L2.St

/-- a run's result -/
inductive R (α : Type) where
  | ok (a : α) (S : Sto)
  | exc (c : Nat) (v : D) (S : Sto)
  | no
def R.bind {α β : Type} (r : R α) (g : α → Sto → R β) : R β := match r with
  | .ok a S => g a S
  | .exc c v S => .exc c v S
  | .no => .no

theorem Sto.get_push_lt {S : Sto} {o : Ob} {k : Nat} (h : k < S.n) : (S.push o).get k = S.get k := by
  have h2 : k < S.n + 1 := Nat.lt_succ_of_lt h
  show (if k < S.n + 1 then (o :: S.l)[S.n + 1 - 1 - k]? else none) = if k < S.n then S.l[S.n - 1 - k]? else none
  rw [if_pos h, if_pos h2, show S.n + 1 - 1 - k = (S.n - 1 - k) + 1 by omega, List.getElem?_cons_succ]
theorem Sto.get_push_eq {S : Sto} {o : Ob} : (S.push o).get S.n = some o := by
  show (if S.n < S.n + 1 then (o :: S.l)[S.n + 1 - 1 - S.n]? else none) = some o
  rw [if_pos (Nat.lt_succ_self _), show S.n + 1 - 1 - S.n = 0 by omega, List.getElem?_cons_zero]
theorem Sto.get_lt {S : Sto} {k : Nat} {o : Ob} (h : S.get k = some o) : k < S.n := by
  unfold Sto.get at h
  split at h
  · assumption
  · cases h
theorem Sto.get_set_eq {S : Sto} {k : Nat} {o o' : Ob} (h : S.get k = some o') : (S.set k o).get k = some o := by
  have hk := Sto.get_lt h
  unfold Sto.get at h ⊢
  rw [if_pos hk] at h
  show (if k < S.n then (S.l.set (S.n - 1 - k) o)[S.n - 1 - k]? else none) = some o
  rw [if_pos hk, List.getElem?_set_self (List.getElem?_eq_some_iff.mp h).1]
theorem Sto.get_set_ne {S : Sto} {j k : Nat} {o : Ob} (hj : j < S.n) (hk : k < S.n) (h : j ≠ k) : (S.set k o).get j = S.get j := by
  unfold Sto.get
  show (if j < S.n then (S.l.set (S.n - 1 - k) o)[S.n - 1 - j]? else none) = _
  rw [if_pos hj, if_pos hj, List.getElem?_set_ne (by omega)]

/-- the text of a lambda -/
structure LamD where
  qual : Str
  params : Arguments
  body : Expr
  scope : Scope
  deriving Inhabited
/-- what is fixed: the written part, the classes' addresses, the tables of code objects, the lambdas, the cells of the def that made them -/
structure Wd where
  K : PySem.W.Frag
  ca : Nat → Addr
  T : List (Addr × Str)
  lam : Nat → LamD
  cl : List (Str × Addr)
  cvl : Str → Option V
/-- a lambda at f, its code at c -/
def lamO (L : LamD) (cl : List (Str × Addr)) (f c : Addr) : HO := .ext fun h => ∃ pm ctv, h.get? f = some (PySem.W.kla_obj "<lambda>" L.qual L.params L.body L.scope (cloFrom cl L.scope.names []) pm c ctv)
theorem lamO_tbl {L : LamD} {cl : List (Str × Addr)} {f c : Addr} (ps : Array Value) : lamO L cl f c ≠ .tbl ps := fun z => (nomatch (show HO.ext _ = HO.tbl ps from z))

/-- not in the store -/
def Off (m : Nat → Addr) (n : Nat) (a : Addr) : Prop := ∀ k, k < n → m k ≠ a
def TupAt (K : PySem.W.Frag) (H : Hp) (m : Nat → Addr) (n : Nat) (a : Addr) (vs : List V) : Prop := H a = some (.tup vs) ∧ Off m n a
theorem TupAt.sq {K : PySem.W.Frag} {H : Hp} {m : Nat → Addr} {n : Nat} {a : Addr} {vs : List V} (h : TupAt K H m n a vs) : SqT K H a vs := SqT.of h.1
/-- a tuple of the written part -/
def KTup (K : PySem.W.Frag) (a : Addr) (vs : List V) : Prop := ∃ (o : Obj) (its : Array Value) (k : Nat), K.lookup a = some o ∧ o.cls = .type "tuple" ∧ o.dict = none ∧ o.data = .seq its k ∧ its.size ≤ sizeLine ∧ Vals vs its.toList
theorem KTup.sq {K : PySem.W.Frag} {H : Hp} {a : Addr} {vs : List V} (h : KTup K a vs) : SqT K H a vs := by
  obtain ⟨o, its, k, h1, h2, _, h3, h4, h5⟩ := h
  exact .inr ⟨o, its, k, h1, h2, h3, h4, h5⟩
/-- a list that nobody writes -/
def FixL (K : PySem.W.Frag) (H : Hp) (m : Nat → Addr) (n : Nat) (a : Addr) (vs : List V) : Prop := ((H a = some (.lst vs) ∨ ∃ o, H a = some (.frz o (.lst vs))) ∧ Off m n a) ∨
  ∃ (o : Obj) (its : Array Value) (k : Nat), K.lookup a = some o ∧ o.cls = .type "list" ∧ o.dict = none ∧ o.data = .seq its k ∧ its.size ≤ sizeLine ∧ Vals vs its.toList
theorem FixL.sq {K : PySem.W.Frag} {H : Hp} {m : Nat → Addr} {n : Nat} {a : Addr} {vs : List V} (h : FixL K H m n a vs) : SqL K H a vs := h.imp (fun x => x.1) id
/-- an exception object of the class at C with the dict at d -/
def exO (C a d : Addr) : HO := .ext fun h => ∃ (oe : Obj) (ws : Array Value), h.get? a = some oe ∧ Zc (.ref C) (some d) oe ∧ oe.data = .fields ws

mutual
def RelD (W : Wd) (H : Hp) (m : Nat → Addr) (n : Nat) : D → V → Prop
  | .non, v => v = .non
  | .bl b, v => v = .bl b
  | .int i, v => v = .int i
  | .str x, v => v = .str x
  | .tup ds, v => ∃ a vs, v = .ref a ∧ TupAt W.K H m n a vs ∧ RelDs W H m n ds vs
  | .ktp ds, v => ∃ a vs, v = .ref a ∧ KTup W.K a vs ∧ RelDs W H m n ds vs
  | .loc k, v => k < n ∧ v = .ref (m k)
  | .exc c x, v => ∃ a d u, v = .ref a ∧ (H a = some (exO (W.ca c) a d) ∧ Off m n a) ∧ (H d = some (.xd [("value", u)]) ∧ Off m n d) ∧ RelD W H m n x u
  | .sq ds, v => ∃ a vs, v = .ref a ∧ FixL W.K H m n a vs ∧ RelDs W H m n ds vs
  | .lam k, v => ∃ f c, v = .ref f ∧ (H f = some (lamO (W.lam k) W.cl f c) ∧ Off m n f) ∧ (H c = some (LamX.CodeO c (W.lam k).qual) ∧ Off m n c)
def RelDs (W : Wd) (H : Hp) (m : Nat → Addr) (n : Nat) : List D → List V → Prop
  | [], vs => vs = []
  | d :: ds, vs => ∃ u us, vs = u :: us ∧ RelD W H m n d u ∧ RelDs W H m n ds us
end

/-- how the heap goes on -/
structure Ext0 (W : Wd) (H : Hp) (m : Nat → Addr) (n : Nat) (H' : Hp) (m' : Nat → Addr) (n' : Nat) : Prop where
  le : n ≤ n'
  same : ∀ k, k < n → m' k = m k
  keep : ∀ b o, H b = some o → Off m n b → (∀ ps, o ≠ .tbl ps) → H' b = some o
  fresh : ∀ k, n ≤ k → k < n' → H (m' k) = none
  dom : ∀ b, H' b = none → H b = none
/-- .. what is locked stays so -/
structure Ext (W : Wd) (H : Hp) (m : Nat → Addr) (n : Nat) (H' : Hp) (m' : Nat → Addr) (n' : Nat) : Prop extends Ext0 W H m n H' m' n' where
  frz : ∀ b o u, H b = some (.frz o u) → H' b = some (.frz o u)
theorem Ext.refl {W : Wd} {H : Hp} {m : Nat → Addr} {n : Nat} : Ext W H m n H m n := ⟨⟨Nat.le_refl _, fun _ _ => rfl, fun _ _ h _ _ => h, fun k h1 h2 => absurd h2 (Nat.not_lt.mpr h1), fun _ h => h⟩, fun _ _ _ h => h⟩
section
variable {W : Wd} {H H' H2 : Hp} {m m' m2 : Nat → Addr} {n n' n2 : Nat}
theorem Ext0.off (e : Ext0 W H m n H' m' n') {b : Addr} {o : HO} (h : H b = some o) (f : Off m n b) : Off m' n' b := fun k hk z => by
  by_cases hn : k < n
  · rw [e.same k hn] at z
    exact f k hn z
  · have q := e.fresh k (Nat.le_of_not_lt hn) hk
    rw [z, h] at q
    cases q
theorem Ext0.trans (a : Ext0 W H m n H' m' n') (b : Ext0 W H' m' n' H2 m2 n2) : Ext0 W H m n H2 m2 n2 where
  le := Nat.le_trans a.le b.le
  same := fun k h => (b.same k (Nat.lt_of_lt_of_le h a.le)).trans (a.same k h)
  keep := fun c o h f nt => b.keep c o (a.keep c o h f nt) (a.off h f) nt
  fresh := fun k h1 h2 => by
    by_cases hk : k < n'
    · rw [b.same k hk]
      exact a.fresh k h1 hk
    · exact a.dom _ (b.fresh k (Nat.le_of_not_lt hk) h2)
  dom := fun c h => a.dom c (b.dom c h)
theorem Ext.trans (a : Ext W H m n H' m' n') (b : Ext W H' m' n' H2 m2 n2) : Ext W H m n H2 m2 n2 := ⟨a.toExt0.trans b.toExt0, fun c o u h => b.frz c o u (a.frz c o u h)⟩
theorem Ext.off (e : Ext W H m n H' m' n') {b : Addr} {o : HO} (h : H b = some o) (f : Off m n b) : Off m' n' b := e.toExt0.off h f
theorem TupAt.ext0 {K : PySem.W.Frag} {a : Addr} {vs : List V} (e : Ext0 W H m n H' m' n') (h : TupAt K H m n a vs) : TupAt K H' m' n' a vs := ⟨e.keep _ _ h.1 h.2 (fun ps z => nomatch z), e.off h.1 h.2⟩
theorem FixL.ext0 {K : PySem.W.Frag} {a : Addr} {vs : List V} (e : Ext0 W H m n H' m' n') (h : FixL K H m n a vs) : FixL K H' m' n' a vs := by
  rcases h with ⟨h | ⟨o, h⟩, f⟩ | h
  · exact .inl ⟨.inl (e.keep _ _ h f (fun ps z => nomatch z)), e.off h f⟩
  · exact .inl ⟨.inr ⟨o, e.keep _ _ h f (fun ps z => nomatch z)⟩, e.off h f⟩
  · exact .inr h
mutual
theorem RelD.ext0 (e : Ext0 W H m n H' m' n') : ∀ (d : D) (v : V), RelD W H m n d v → RelD W H' m' n' d v
  | .non, v, h => by unfold RelD at h ⊢; exact h
  | .bl b, v, h => by unfold RelD at h ⊢; exact h
  | .int i, v, h => by unfold RelD at h ⊢; exact h
  | .str x, v, h => by unfold RelD at h ⊢; exact h
  | .tup ds, v, h => by
    unfold RelD at h ⊢
    obtain ⟨a, vs, e1, t, r⟩ := h
    exact ⟨a, vs, e1, t.ext0 e, RelDs.ext0 e ds vs r⟩
  | .ktp ds, v, h => by
    unfold RelD at h ⊢
    obtain ⟨a, vs, e1, t, r⟩ := h
    exact ⟨a, vs, e1, t, RelDs.ext0 e ds vs r⟩
  | .loc k, v, h => by
    unfold RelD at h ⊢
    obtain ⟨h1, h2⟩ := h
    exact ⟨Nat.lt_of_lt_of_le h1 e.le, by rw [e.same k h1]; exact h2⟩
  | .exc c x, v, h => by
    unfold RelD at h ⊢
    obtain ⟨a, d, u, e1, ⟨h1, h2⟩, ⟨h3, h4⟩, r⟩ := h
    exact ⟨a, d, u, e1, ⟨e.keep _ _ h1 h2 fun ps z => (nomatch (show HO.ext _ = HO.tbl ps from z)), e.off h1 h2⟩, ⟨e.keep _ _ h3 h4 fun ps z => (nomatch z), e.off h3 h4⟩, RelD.ext0 e x u r⟩
  | .sq ds, v, h => by
    unfold RelD at h ⊢
    obtain ⟨a, vs, e1, t, r⟩ := h
    exact ⟨a, vs, e1, t.ext0 e, RelDs.ext0 e ds vs r⟩
  | .lam k, v, h => by
    unfold RelD at h ⊢
    obtain ⟨f, c, e1, ⟨h1, h2⟩, ⟨h3, h4⟩⟩ := h
    exact ⟨f, c, e1, ⟨e.keep _ _ h1 h2 lamO_tbl, e.off h1 h2⟩, ⟨e.keep _ _ h3 h4 LamX.codeO_ne, e.off h3 h4⟩⟩
theorem RelDs.ext0 (e : Ext0 W H m n H' m' n') : ∀ (ds : List D) (vs : List V), RelDs W H m n ds vs → RelDs W H' m' n' ds vs
  | [], vs, h => by unfold RelDs at h ⊢; exact h
  | d :: ds, vs, h => by
    unfold RelDs at h ⊢
    obtain ⟨u, us, e1, r, rs⟩ := h
    exact ⟨u, us, e1, RelD.ext0 e d u r, RelDs.ext0 e ds us rs⟩
end
theorem RelD.ext (e : Ext W H m n H' m' n') (d : D) (v : V) (h : RelD W H m n d v) : RelD W H' m' n' d v := RelD.ext0 e.toExt0 d v h
theorem RelDs.ext (e : Ext W H m n H' m' n') (d : List D) (v : List V) (h : RelDs W H m n d v) : RelDs W H' m' n' d v := RelDs.ext0 e.toExt0 d v h
theorem FixL.ext {K : PySem.W.Frag} {a : Addr} {vs : List V} (e : Ext W H m n H' m' n') (h : FixL K H m n a vs) : FixL K H' m' n' a vs := h.ext0 e.toExt0
theorem TupAt.ext {K : PySem.W.Frag} {a : Addr} {vs : List V} (e : Ext W H m n H' m' n') (h : TupAt K H m n a vs) : TupAt K H' m' n' a vs := h.ext0 e.toExt0
end
/-- a dict's pairs -/
def KvR {κ : Type} (W : Wd) (H : Hp) (m : Nat → Addr) (n : Nat) : List (κ × D) → List (κ × V) → Prop
  | [], vs => vs = []
  | p :: ps, vs => ∃ u us, vs = (p.1, u) :: us ∧ RelD W H m n p.2 u ∧ KvR W H m n ps us
def FsR (W : Wd) (H : Hp) (m : Nat → Addr) (n : Nat) (ps : List (Str × D)) (vs : List (Str × V)) : Prop := KvR W H m n ps vs
def ObR (W : Wd) (H : Hp) (m : Nat → Addr) (n : Nat) : Ob → HO → Prop
  | .lst ds, o => ∃ vs, o = .lst vs ∧ RelDs W H m n ds vs
  | .dk kvs, o => ∃ vs, o = .dK vs ∧ KvR W H m n kvs vs
  | .dt kvs, o => ∃ vs, o = .dT vs ∧ KvR W H m n kvs vs
  | .fz b, o => ∃ od u, o = .frz od u ∧ ObR W H m n b u
  | .ins c fs, o => ∃ dx vs, o = .ins (W.ca c) dx vs ∧ KvR W H m n fs vs
  | .hid, _ => False
structure RelS (W : Wd) (H : Hp) (m : Nat → Addr) (S : Sto) : Prop where
  inj : ∀ j k, j < S.n → k < S.n → m j = m k → j = k
  at_ : ∀ k, k < S.n → ∃ o ho, S.get k = some o ∧ H (m k) = some ho ∧ ObR W H m S.n o ho
  tabs : LamX.Tabs W.T H
  cells : ∀ vals, S.cv = some vals → ∀ p ∈ vals, ∃ u, W.cvl p.1 = some u ∧ RelD W H m S.n p.2 u
theorem cells_ext0 {W : Wd} {H H' : Hp} {m m' : Nat → Addr} {n n' : Nat} (e : Ext0 W H m n H' m' n') {vals : List (Str × D)} (h : ∀ p ∈ vals, ∃ u, W.cvl p.1 = some u ∧ RelD W H m n p.2 u) :
    ∀ p ∈ vals, ∃ u, W.cvl p.1 = some u ∧ RelD W H' m' n' p.2 u := fun p hp => by
  obtain ⟨u, h1, h4⟩ := h p hp
  exact ⟨u, h1, RelD.ext0 e _ _ h4⟩
section
variable {W : Wd} {H H' H2 : Hp} {m m' m2 : Nat → Addr} {n n' n2 : Nat}
theorem KvR.ext0 {κ : Type} (e : Ext0 W H m n H' m' n') : ∀ (ps : List (κ × D)) (vs : List (κ × V)), KvR W H m n ps vs → KvR W H' m' n' ps vs
  | [], vs, h => h
  | p :: ps, vs, h => by
    obtain ⟨u, us, e1, r, rs⟩ := h
    exact ⟨u, us, e1, RelD.ext0 e _ _ r, KvR.ext0 e ps us rs⟩
theorem ObR.ext0 (e : Ext0 W H m n H' m' n') : ∀ (o : Ob) (ho : HO), ObR W H m n o ho → ObR W H' m' n' o ho
  | .lst ds, _, ⟨vs, e1, r⟩ => ⟨vs, e1, RelDs.ext0 e ds vs r⟩
  | .dk kvs, _, ⟨vs, e1, r⟩ => ⟨vs, e1, KvR.ext0 e kvs vs r⟩
  | .dt kvs, _, ⟨vs, e1, r⟩ => ⟨vs, e1, KvR.ext0 e kvs vs r⟩
  | .fz b, _, ⟨od, u, e1, r⟩ => ⟨od, u, e1, ObR.ext0 e b u r⟩
  | .ins c fs, _, ⟨dx, vs, e1, r⟩ => ⟨dx, vs, e1, KvR.ext0 e fs vs r⟩
  | .hid, _, h => h
theorem KvR.ext {κ : Type} (e : Ext W H m n H' m' n') (ps : List (κ × D)) (vs : List (κ × V)) (h : KvR W H m n ps vs) : KvR W H' m' n' ps vs := KvR.ext0 e.toExt0 ps vs h
theorem ObR.ext (e : Ext W H m n H' m' n') (o : Ob) (ho : HO) (h : ObR W H m n o ho) : ObR W H' m' n' o ho := ObR.ext0 e.toExt0 o ho h
theorem RelS.off {S : Sto} (r : RelS W H m S) {b : Addr} (h : H b = none) : Off m S.n b := fun k hk z => by
  obtain ⟨o, ho, _, q, _⟩ := r.at_ k hk
  rw [z, h] at q
  cases q

/-! ### a new object, of the store and off it -/
/-- the store's map with one more place -/
def mPush (m : Nat → Addr) (n : Nat) (p : Addr) : Nat → Addr := fun k => if k = n then p else m k
theorem mPush_lt {p : Addr} {k : Nat} (h : k < n) : mPush m n p k = m k := if_neg (Nat.ne_of_lt h)
theorem mPush_eq {p : Addr} : mPush m n p n = p := if_pos rfl
theorem ext_upd {p : Addr} {o : HO} (h : H p = none) : Ext W H m n (upd H p o) m n where
  frz := fun b u v hb => by rw [upd_ne (ne_of_none hb h)]; exact hb
  le := Nat.le_refl _
  same := fun _ _ => rfl
  keep := fun b u hb _ _ => by rw [upd_ne (ne_of_none hb h)]; exact hb
  fresh := fun k h1 h2 => absurd h2 (Nat.not_lt.mpr h1)
  dom := fun b hb => by
    by_cases e : b = p
    · rw [e]; exact h
    · rw [upd_ne e] at hb; exact hb
theorem ext_push {p : Addr} {o : HO} (h : H p = none) : Ext W H m n (upd H p o) (mPush m n p) (n + 1) where
  frz := fun b u v hb => by rw [upd_ne (ne_of_none hb h)]; exact hb
  le := Nat.le_succ _
  same := fun _ hk => mPush_lt hk
  keep := fun b u hb _ _ => by rw [upd_ne (ne_of_none hb h)]; exact hb
  fresh := fun k h1 h2 => by
    have e : k = n := by omega
    rw [e, mPush_eq]
    exact h
  dom := fun b hb => by
    by_cases e : b = p
    · rw [e]; exact h
    · rw [upd_ne e] at hb; exact hb
theorem RelS.upd {S : Sto} (r : RelS W H m S) {p : Addr} {o : HO} (h : H p = none) : RelS W (upd H p o) m S where
  inj := r.inj
  at_ := fun k hk => by
    obtain ⟨b, ho, g, q, t⟩ := r.at_ k hk
    exact ⟨b, ho, g, by rw [upd_ne (ne_of_none q h)]; exact q, ObR.ext (ext_upd h) _ _ t⟩
  tabs := r.tabs.ext fun b u hb => by rw [upd_ne (ne_of_none hb h)]; exact hb
  cells := fun vals hv => cells_ext0 (ext_upd h).toExt0 (r.cells vals hv)
theorem RelS.push {S : Sto} (r : RelS W H m S) {p : Addr} {o : HO} {b : Ob} (h : H p = none) (hb : ObR W H m S.n b o) : RelS W (L2.upd H p o) (mPush m S.n p) (S.push b) where
  inj := fun j k hj hk e => by
    have hj : j < S.n + 1 := hj
    have hk : k < S.n + 1 := hk
    have off : ∀ i, i < S.n → m i ≠ p := r.off h
    by_cases ej : j = S.n
    · by_cases ek : k = S.n
      · rw [ej, ek]
      · rw [ej, mPush_eq, mPush_lt (by omega)] at e
        exact absurd e.symm (off k (by omega))
    · by_cases ek : k = S.n
      · rw [ek, mPush_eq, mPush_lt (by omega)] at e
        exact absurd e (off j (by omega))
      · rw [mPush_lt (by omega), mPush_lt (by omega)] at e
        exact r.inj j k (by omega) (by omega) e
  at_ := fun k hk => by
    have hk : k < S.n + 1 := hk
    by_cases ek : k = S.n
    · subst ek
      exact ⟨b, o, Sto.get_push_eq, by rw [mPush_eq, upd_same], ObR.ext (ext_push h) _ _ hb⟩
    · have hk2 : k < S.n := by omega
      obtain ⟨u, ho, g, q, t⟩ := r.at_ k hk2
      exact ⟨u, ho, by rw [Sto.get_push_lt hk2]; exact g, by rw [mPush_lt hk2, upd_ne (ne_of_none q h)]; exact q, ObR.ext (ext_push h) _ _ t⟩
  tabs := r.tabs.ext fun b u hb => by rw [upd_ne (ne_of_none hb h)]; exact hb
  cells := fun vals hv => cells_ext0 (ext_push h).toExt0 (r.cells vals hv)
/-- an object of the store changed -/
theorem ext0_set {S : Sto} (r : RelS W H m S) {k : Nat} {o : HO} (hk : k < S.n) : Ext0 W H m S.n (L2.upd H (m k) o) m S.n where
  le := Nat.le_refl _
  same := fun _ _ => rfl
  keep := fun b u hb f _ => by rw [upd_ne (Ne.symm (f k hk))]; exact hb
  fresh := fun k h1 h2 => absurd h2 (Nat.not_lt.mpr h1)
  dom := fun b hb => by
    by_cases e : b = m k
    · rw [e, upd_same] at hb; cases hb
    · rw [upd_ne e] at hb; exact hb
theorem ext_set {S : Sto} (r : RelS W H m S) {k : Nat} {o ho : HO} (hk : k < S.n) (hm : H (m k) = some ho) (nf : ∀ o u, ho ≠ .frz o u) : Ext W H m S.n (L2.upd H (m k) o) m S.n :=
  ⟨ext0_set r hk, fun b u v hb => by rw [upd_ne (fun z => by rw [z, hm] at hb; exact nf u v (Option.some.inj hb))]; exact hb⟩
theorem RelS.set {S : Sto} (r : RelS W H m S) {k : Nat} {o ho : HO} {b b' : Ob} (hk : S.get k = some b') (hm : H (m k) = some ho) (nt : ∀ ps, ho ≠ .tbl ps) (ns : ∀ φ, ho ≠ .ext φ) (hb : ObR W H m S.n b o) : RelS W (L2.upd H (m k) o) m (S.set k b) where
  inj := r.inj
  at_ := fun j hj => by
    have hkn := Sto.get_lt hk
    have hj : j < S.n := hj
    by_cases e : j = k
    · subst e
      exact ⟨b, o, Sto.get_set_eq hk, upd_same, ObR.ext0 (ext0_set r hkn) _ _ hb⟩
    · obtain ⟨u, ho', g, q, t⟩ := r.at_ j hj
      exact ⟨u, ho', by rw [Sto.get_set_ne hj hkn e]; exact g, by rw [upd_ne (fun z => e (r.inj j k hj hkn z))]; exact q, ObR.ext0 (ext0_set r hkn) _ _ t⟩
  cells := fun vals hv => cells_ext0 (ext0_set r (Sto.get_lt hk)) (r.cells vals hv)
  tabs := fun p hp => by
    obtain ⟨ps, h1, h2, h3⟩ := r.tabs p hp
    refine ⟨ps, by rw [upd_ne (fun z => by rw [z, hm] at h1; exact nt ps (Option.some.inj h1))]; exact h1, h2, fun pos cv hc => ?_⟩
    obtain ⟨c, e1, e2⟩ := h3 pos cv hc
    exact ⟨c, e1, by rw [upd_ne (fun z => by rw [z, hm] at e2; exact ns _ (Option.some.inj e2))]; exact e2⟩
/-- what the store writes -/
def Wr : HO → Prop
  | .lst _ | .dK _ | .dT _ | .ins _ _ _ => True
  | _ => False
theorem Wr.nt {o : HO} (h : Wr o) (ps : Array Value) : o ≠ .tbl ps := fun z => by rw [z] at h; exact h
theorem Wr.ns {o : HO} (h : Wr o) (φ : Heap → Prop) : o ≠ .ext φ := fun z => by rw [z] at h; exact h
theorem Wr.nf {o : HO} (h : Wr o) (ob : Obj) (u : HO) : o ≠ .frz ob u := fun z => by rw [z] at h; exact h
end
end Z
set_option Elab.async false
set_option linter.all false
set_option autoImplicit false
set_option maxRecDepth 100000
/-! Z2: readings by a run; their composition. -/
namespace Z
open PySem PySem.Spec PyProof.Rows L2

abbrev Rl (α β : Type) := Hp → (Nat → Addr) → Nat → α → β → Prop
/-- behind a run with the result r: what Q and E are to bear -/
def PostG {α β : Type} (W : Wd) (rl : Rl α β) (E : XK) (H : Hp) (m : Nat → Addr) (n : Nat) (r : R α) (Q : β → Hp → Prop) : Prop := match r with
  | .ok a S' => ∀ H' m' v, Ext W H m n H' m' S'.n → RelS W H' m' S' → rl H' m' S'.n a v → Q v H'
  | .exc c x S' => ∀ H' m' d u, Ext W H m n H' m' S'.n → RelS W H' m' S' → H' d = some (.xd [("value", u)]) → Off m' S'.n d → RelD W H' m' S'.n x u → E (.ref (W.ca c)) (some d) H'
  | .no => False
structure RelEn (W : Wd) (H : Hp) (m : Nat → Addr) (n : Nat) (env : En) (σ : St) : Prop where
  len : env.length = σ.length
  at_ : ∀ (i : Nat) (d : D), env[i]? = some (some d) → ∃ v, σ[i]? = some (some v) ∧ RelD W H m n d v
/-- a reading by a run -/
def tG {α β : Type} (W : Wd) (rl : Rl α β) (E : St → XK) (f : En → Sto → R α) : St → Hp → (β → Hp → Prop) → Prop := fun σ H Q =>
  ∃ env m S, RelEn W H m S.n env σ ∧ RelS W H m S ∧ PostG W rl (E σ) H m S.n (f env S) Q
abbrev rB : Rl Bool Bool := fun _ _ _ a b => a = b
abbrev tE (W : Wd) (E : St → XK) (f : En → Sto → R D) : TE := tG W (RelD W) E f
abbrev tA (W : Wd) (E : St → XK) (f : En → Sto → R (List D)) : TA := tG W (RelDs W) E f
abbrev tT (W : Wd) (E : St → XK) (f : En → Sto → R Bool) : TT := tG W rB E f

section
variable {α β γ δ : Type} {W : Wd} {rl : Rl α β} {rl2 : Rl γ δ} {E : XK} {H H' : Hp} {m m' : Nat → Addr} {n n' : Nat}
theorem PostG.ext (e : Ext W H m n H' m' n') {r : R α} {Q : β → Hp → Prop} (h : PostG W rl E H m n r Q) : PostG W rl E H' m' n' r Q := by
  cases r with
  | ok a S => exact fun H2 m2 v e2 rs q => h H2 m2 v (e.trans e2) rs q
  | exc c x S => exact fun H2 m2 d u e2 rs q1 q2 q3 => h H2 m2 d u (e.trans e2) rs q1 q2 q3
  | no => exact h
theorem PostG.mono {r : R α} {Q Q' : β → Hp → Prop} (h : PostG W rl E H m n r Q) (hq : ∀ v H', Q v H' → Q' v H') : PostG W rl E H m n r Q' := by
  cases r with
  | ok a S => exact fun H2 m2 v e2 rs q => hq _ _ (h H2 m2 v e2 rs q)
  | exc c x S => exact h
  | no => exact h
theorem PostG.bind {r : R α} {g : α → Sto → R γ} {Q : δ → Hp → Prop} (h : PostG W rl2 E H m n (r.bind g) Q) :
    PostG W rl E H m n r fun v H1 => ∃ m1 S1 a, Ext W H m n H1 m1 S1.n ∧ RelS W H1 m1 S1 ∧ rl H1 m1 S1.n a v ∧ PostG W rl2 E H1 m1 S1.n (g a S1) Q := by
  cases r with
  | ok a S => exact fun H2 m2 v e2 rs q => ⟨m2, S, a, e2, rs, q, PostG.ext e2 h⟩
  | exc c x S => exact h
  | no => exact h
theorem RelEn.ext (e : Ext W H m n H' m' n') {env : En} {σ : St} (h : RelEn W H m n env σ) : RelEn W H' m' n' env σ :=
  ⟨h.len, fun i d q => by
    obtain ⟨v, h1, h2⟩ := h.at_ i d q
    exact ⟨v, h1, RelD.ext e d v h2⟩⟩
theorem RelEn.set {env : En} {σ : St} (h : RelEn W H m n env σ) {i : Nat} {d : D} {v : V} (r : RelD W H m n d v) : RelEn W H m n (env.set i (some d)) (σ.set i (some v)) where
  len := by rw [List.length_set, List.length_set]; exact h.len
  at_ := fun j d' q => by
    by_cases e : i = j
    · subst e
      by_cases hi : i < env.length
      · rw [List.getElem?_set_self hi] at q
        cases q
        exact ⟨v, List.getElem?_set_self (by rw [← h.len]; exact hi), r⟩
      · rw [List.getElem?_eq_none (by rw [List.length_set]; omega)] at q
        cases q
    · rw [List.getElem?_set_ne e] at q
      rw [List.getElem?_set_ne e]
      exact h.at_ j d' q
theorem RelEn.unset {env : En} {σ : St} (h : RelEn W H m n env σ) {i : Nat} {o : Option V} : RelEn W H m n (env.set i none) (σ.set i o) where
  len := by rw [List.length_set, List.length_set]; exact h.len
  at_ := fun j d' q => by
    by_cases e : i = j
    · subst e
      by_cases hi : i < env.length
      · rw [List.getElem?_set_self hi] at q
        cases q
      · rw [List.getElem?_eq_none (by rw [List.length_set]; omega)] at q
        cases q
    · rw [List.getElem?_set_ne e] at q
      rw [List.getElem?_set_ne e]
      exact h.at_ j d' q
end
section
variable {α β γ δ : Type} {W : Wd} {rl : Rl α β} {rl2 : Rl γ δ} {E : St → XK}
theorem tG.mono {f : En → Sto → R α} {σ : St} {H : Hp} {Q Q' : β → Hp → Prop} (h : tG W rl E f σ H Q) (hq : ∀ v H', Q v H' → Q' v H') : tG W rl E f σ H Q' := by
  obtain ⟨env, m, S, h1, h2, h3⟩ := h
  exact ⟨env, m, S, h1, h2, h3.mono hq⟩
/-- the first part runs; the rest is as it was -/
theorem tG.seq {f : En → Sto → R α} {g : En → α → Sto → R γ} {σ : St} {H : Hp} {Q : δ → Hp → Prop} (h : tG W rl2 E (fun env S => (f env S).bind (g env)) σ H Q) :
    tG W rl E f σ H fun v H1 => ∃ env m S a, RelEn W H1 m S.n env σ ∧ RelS W H1 m S ∧ rl H1 m S.n a v ∧ PostG W rl2 (E σ) H1 m S.n (g env a S) Q := by
  obtain ⟨env, m, S, h1, h2, h3⟩ := h
  refine ⟨env, m, S, h1, h2, h3.bind.mono fun v H1 q => ?_⟩
  obtain ⟨m1, S1, a, e, rs, ra, p⟩ := q
  exact ⟨env, m1, S1, a, h1.ext e, rs, ra, p⟩
/-- .. and one more part, what the first gave kept -/
theorem tG.seq2 {f : En → Sto → R α} {g : α → Sto → R γ} {α0 β0 : Type} {rl0 : Rl α0 β0} (mo : ∀ {H m n H' m' n'} a v, Ext W H m n H' m' n' → rl0 H m n a v → rl0 H' m' n' a v) {σ : St} {H : Hp} {Q : δ → Hp → Prop} {env : En} {m : Nat → Addr} {S : Sto} {a0 : α0} {v0 : β0}
    (h1 : RelEn W H m S.n env σ) (h2 : RelS W H m S) (h0 : rl0 H m S.n a0 v0) (h : PostG W rl2 (E σ) H m S.n ((f env S).bind g) Q) :
    tG W rl E f σ H fun v H1 => ∃ m S a, RelEn W H1 m S.n env σ ∧ RelS W H1 m S ∧ rl0 H1 m S.n a0 v0 ∧ rl H1 m S.n a v ∧ PostG W rl2 (E σ) H1 m S.n (g a S) Q := by
  refine ⟨env, m, S, h1, h2, h.bind.mono fun v H1 q => ?_⟩
  obtain ⟨m1, S1, a, e, rs, ra, p⟩ := q
  exact ⟨m1, S1, a, h1.ext e, rs, mo _ _ e h0, ra, p⟩
end

/-! ### judgements, weakened -/
section
variable {X : Cx}
theorem pe_imp {e : Expr} {t t' : TE} (h : PE X e t) (i : ∀ σ H Q, t' σ H Q → t σ H Q) : PE X e t' := ⟨fun pins s σ H Q I q => h.run pins s σ H Q I (i σ H Q q)⟩
theorem pt_imp {e : Expr} {t t' : TT} (h : PT X e t) (i : ∀ σ H Q, t' σ H Q → t σ H Q) : PT X e t' := ⟨fun pins s σ H Q I q => h.run pins s σ H Q I (i σ H Q q)⟩
theorem pw_imp {e : Expr} {t t' : TT} (h : PW X e t) (i : ∀ σ H Q, t' σ H Q → t σ H Q) : PW X e t' := ⟨fun wh pins s σ H Q I q => h.run wh pins s σ H Q I (i σ H Q q)⟩
theorem pa_imp {es : List Expr} {t t' : TA} (h : PA X es t) (i : ∀ σ H Q, t' σ H Q → t σ H Q) : PA X es t' := ⟨fun pos pins s σ H Q I q => h.run pos pins s σ H Q I (i σ H Q q)⟩
theorem ps_imp {st : Stmt} {t t' : TS} (h : PS X st t) (i : ∀ D σ H, t' D σ H → t D σ H) : PS X st t' := ⟨fun pins s σ H D I q => h.run pins s σ H D I (i D σ H q)⟩
theorem pss_imp {st : List Stmt} {t t' : TS} (h : PSs X st t) (i : ∀ D σ H, t' D σ H → t D σ H) : PSs X st t' := ⟨fun pins s σ H D I q => h.run pins s σ H D I (i D σ H q)⟩
theorem op_imp {f : Value → Value → Sem Value} {r r' : R2} (h : OpR X f r) (i : ∀ x y H Q, r' x y H Q → r x y H Q) : OpR X f r' := fun pins s σ H x y v u Q I rx ry q => h pins s σ H x y v u Q I rx ry (i x y H Q q)
theorem call_imp {f : Value} {r r' : List V → Hp → VK → Prop} (h : CallR X f r) (i : ∀ x H Q, r' x H Q → r x H Q) : CallR X f r' := fun pins s σ H x u Q I rx q => h pins s σ H x u Q I rx (i x H Q q)
end

/-! ### operations by values: they raise nothing -/
/-- behind an operation -/
def PostO {α β : Type} (W : Wd) (rl : Rl α β) (H : Hp) (m : Nat → Addr) (n : Nat) (r : Option (α × Sto)) (Q : β → Hp → Prop) : Prop := match r with
  | some (a, S') => ∀ H' m' v, Ext W H m n H' m' S'.n → RelS W H' m' S' → rl H' m' S'.n a v → Q v H'
  | none => False
def R.of {α : Type} : Option (α × Sto) → R α
  | some (a, S) => .ok a S
  | none => .no
theorem PostG.of {α β : Type} {W : Wd} {rl : Rl α β} {E : XK} {H : Hp} {m : Nat → Addr} {n : Nat} {r : Option (α × Sto)} {Q : β → Hp → Prop} (h : PostG W rl E H m n (R.of r) Q) : PostO W rl H m n r Q := by
  cases r with
  | none => exact h
  | some p => exact h
abbrev Op2 := D → D → Sto → Option (D × Sto)
/-- the rule of an operation -/
def rOp (W : Wd) (f : Op2) : R2 := fun x y H Q => ∃ m S a b, RelS W H m S ∧ RelD W H m S.n a x ∧ RelD W H m S.n b y ∧ PostO W (RelD W) H m S.n (f a b S) Q
abbrev OpA := List D → Sto → Option (D × Sto)
def rOpA (W : Wd) (f : OpA) : List V → Hp → VK → Prop := fun xs H Q => ∃ m S as, RelS W H m S ∧ RelDs W H m S.n as xs ∧ PostO W (RelD W) H m S.n (f as S) Q
/-- nothing of the store changes: an answer -/
theorem PostO.ret {α β : Type} {W : Wd} {rl : Rl α β} {H : Hp} {m : Nat → Addr} {S : Sto} {a : α} {v : β} {Q : β → Hp → Prop} (h : PostO W rl H m S.n (some (a, S)) Q) (rs : RelS W H m S) (r : rl H m S.n a v) : Q v H := h H m v Ext.refl rs r
/-- a new object off the store -/
theorem PostO.new {α β : Type} {W : Wd} {rl : Rl α β} {H : Hp} {m : Nat → Addr} {S : Sto} {a : α} {v : β} {Q : β → Hp → Prop} (h : PostO W rl H m S.n (some (a, S)) Q) (rs : RelS W H m S) {p : Addr} {o : HO} (hp : H p = none) (r : rl (upd H p o) m S.n a v) : Q v (upd H p o) :=
  h _ m v (ext_upd hp) (rs.upd hp) r
/-- a new object of the store -/
theorem PostO.newS {α β : Type} {W : Wd} {rl : Rl α β} {H : Hp} {m : Nat → Addr} {S : Sto} {a : α} {v : β} {Q : β → Hp → Prop} {b : Ob} (h : PostO W rl H m S.n (some (a, S.push b)) Q) (rs : RelS W H m S) {p : Addr} {o : HO} (hp : H p = none) (hb : ObR W H m S.n b o)
    (r : rl (upd H p o) (mPush m S.n p) (S.n + 1) a v) : Q v (upd H p o) := h _ _ v (ext_push hp) (rs.push hp hb) r
/-- an object of the store changed -/
theorem PostO.set {α β : Type} {W : Wd} {rl : Rl α β} {H : Hp} {m : Nat → Addr} {S : Sto} {a : α} {v : β} {Q : β → Hp → Prop} {b b' : Ob} {k : Nat} {ho o : HO} (h : PostO W rl H m S.n (some (a, S.set k b)) Q) (rs : RelS W H m S) (hk : S.get k = some b') (hm : H (m k) = some ho)
    (wr : Wr ho) (hb : ObR W H m S.n b o) (r : rl (upd H (m k) o) m S.n a v) : Q v (upd H (m k) o) := h _ m v (ext_set rs (Sto.get_lt hk) hm wr.nf) (rs.set hk hm wr.nt wr.ns hb) r
theorem relD_new {W : Wd} {H : Hp} {m : Nat → Addr} {n : Nat} {d : D} {v : V} {p : Addr} {o : HO} (hp : H p = none) (r : RelD W H m n d v) : RelD W (upd H p o) m n d v := RelD.ext (ext_upd hp) d v r
theorem relDs_new {W : Wd} {H : Hp} {m : Nat → Addr} {n : Nat} {d : List D} {v : List V} {p : Addr} {o : HO} (hp : H p = none) (r : RelDs W H m n d v) : RelDs W (upd H p o) m n d v := RelDs.ext (ext_upd hp) d v r
/-- a new tuple -/
theorem relD_tup {W : Wd} {H : Hp} {m : Nat → Addr} {S : Sto} {ds : List D} {vs : List V} {p : Addr} (rs : RelS W H m S) (hp : H p = none) (r : RelDs W H m S.n ds vs) : RelD W (upd H p (.tup vs)) m S.n (.tup ds) (.ref p) := by
  unfold RelD
  exact ⟨p, vs, rfl, ⟨upd_same, rs.off hp⟩, relDs_new hp r⟩
theorem relD_loc {W : Wd} {H : Hp} {m : Nat → Addr} {n : Nat} {p : Addr} : RelD W H (mPush m n p) (n + 1) (.loc n) (.ref p) := by
  unfold RelD
  exact ⟨Nat.lt_succ_self _, by rw [mPush_eq]⟩

/-! ### expressions -/
section
variable {X : Cx} {W : Wd} {E : St → XK} {pos : Pos}
def fVar (i : Nat) : En → Sto → R D := fun env S => match env[i]? with
  | some (some d) => .ok d S
  | _ => .no
theorem z_var {i : Nat} {x : Str} (hN : X.N[i]? = some x) (hv : Vis X.env.scope x) (hd : (x == ("__debug__" : Str)) = false) (hcd : (x == ("__classdict__" : Str)) = false) : PE X (.Name x pos) (tE W E (fVar i)) := by
  refine pe_imp (pe_var (i := i) hN hv hd hcd) fun σ H Q h => ?_
  obtain ⟨env, m, S, h1, h2, h3⟩ := h
  unfold fVar at h3
  split at h3
  · rename_i d q
    obtain ⟨v, e1, e2⟩ := h1.at_ i d q
    exact ⟨v, e1, h3 H m v Ext.refl h2 e2⟩
  · exact h3.elim
def fCst (d : D) : En → Sto → R D := fun _ S => .ok d S
theorem z_cst {e : Expr} {d : D} {v : V} (h : PE X e (tC v)) (r : ∀ H m n, RelD W H m n d v) : PE X e (tE W E (fCst d)) := by
  refine pe_imp h fun σ H Q h => ?_
  obtain ⟨env, m, S, h1, h2, h3⟩ := h
  exact h3 H m v Ext.refl h2 (r _ _ _)
def fBin (f : Op2) (fa fb : En → Sto → R D) : En → Sto → R D := fun env S => (fa env S).bind fun a S1 => (fb env S1).bind fun b S2 => R.of (f a b S2)
theorem fBin_read {f : Op2} {fa fb : En → Sto → R D} {σ : St} {H : Hp} {Q : VK} (h : tE W E (fBin f fa fb) σ H Q) : tOp (rOp W f) (tE W E fa) (tE W E fb) σ H Q := by
  refine (tG.seq (rl := RelD W) (g := fun env a S1 => (fb env S1).bind fun b S2 => R.of (f a b S2)) h).mono fun x H1 q => ?_
  obtain ⟨env, m, S, a, h1, h2, h3, h4⟩ := q
  refine (tG.seq2 (rl := RelD W) (rl0 := RelD W) (fun a v e r => RelD.ext e a v r) h1 h2 h3 h4).mono fun y H2 q => ?_
  obtain ⟨m2, S2, b, _, g2, g3, g4, g5⟩ := q
  exact ⟨m2, S2, a, b, g2, g3, g4, g5.of⟩
theorem z_bin {op : Operator} {a b : Expr} {f : Op2} {fa fb : En → Sto → R D} (ho : OpR X (binaryOp op) (rOp W f)) (ha : PE X a (tE W E fa)) (hb : PE X b (tE W E fb)) : PE X (.BinOp a op b pos) (tE W E (fBin f fa fb)) :=
  pe_imp (pe_op ho ha hb) fun _ _ _ h => fBin_read h
theorem z_cmp {op : CmpOp} {a b : Expr} {f : Op2} {fa fb : En → Sto → R D} (ho : OpR X (compareOp op) (rOp W f)) (ha : PE X a (tE W E fa)) (hb : PE X b (tE W E fb)) (hm : behindInMarks op b = false) : PE X (.Compare a [op] [b] pos) (tE W E (fBin f fa fb)) :=
  pe_imp (pe_cmpR ho ha hb hm) fun _ _ _ h => fBin_read h
end
end Z
set_option Elab.async false
set_option linter.all false
set_option autoImplicit false
set_option maxRecDepth 100000
/-! Z3: expressions: what each construct's run is. -/
namespace Z
open PySem PySem.Spec PyProof.Rows L2

theorem RelDs.len {W : Wd} {H : Hp} {m : Nat → Addr} {n : Nat} : ∀ {ds : List D} {vs : List V}, RelDs W H m n ds vs → vs.length = ds.length
  | [], vs, h => by
    unfold RelDs at h
    rw [h]; rfl
  | d :: ds, vs, h => by
    unfold RelDs at h
    obtain ⟨u, us, e, _, r⟩ := h
    rw [e, List.length_cons, List.length_cons, r.len]
theorem RelDs.get {W : Wd} {H : Hp} {m : Nat → Addr} {n : Nat} : ∀ {ds : List D} {vs : List V} {i : Nat} {d : D}, RelDs W H m n ds vs → ds[i]? = some d → ∃ v, vs[i]? = some v ∧ RelD W H m n d v
  | [], _, i, d, _, e => by simp at e
  | d0 :: ds, vs, i, d, h, e => by
    unfold RelDs at h
    obtain ⟨u, us, e1, r, rs⟩ := h
    subst e1
    cases i with
    | zero =>
      simp at e
      subst e
      exact ⟨u, rfl, r⟩
    | succ j =>
      rw [List.getElem?_cons_succ] at e
      obtain ⟨v, h1, h2⟩ := rs.get e
      exact ⟨v, by rw [List.getElem?_cons_succ]; exact h1, h2⟩
theorem line1000000 : (1000000 : Nat) ≤ sizeLine := by rw [sizeLine_eq]; omega

section
variable {X : Cx} {W : Wd} {E : St → XK} {pos : Pos} {a b c e : Expr} {es rest : List Expr} {fa fb fc : En → Sto → R D} {ta tb : En → Sto → R Bool}
/-! ### arguments, displays -/
def fArgs : List (En → Sto → R D) → En → Sto → R (List D)
  | [], _, S => .ok [] S
  | f :: fs, env, S => (f env S).bind fun d S1 => (fArgs fs env S1).bind fun ds S2 => .ok (d :: ds) S2
theorem z_nil : PA X [] (tA W E (fArgs [])) := by
  refine pa_imp pa_nil fun σ H Q h => ?_
  obtain ⟨env, m, S, h1, h2, h3⟩ := h
  exact h3 H m [] Ext.refl h2 (by unfold RelDs; rfl)
theorem z_cons {fs : List (En → Sto → R D)} (ha : PE X e (tE W E fa)) (hr : PA X es (tA W E (fArgs fs))) (hs : starEach (e :: es) X.env = (false, eval e X.env) :: starEach es X.env) : PA X (e :: es) (tA W E (fArgs (fa :: fs))) := by
  refine pa_imp (pa_cons ha hr hs) fun σ H Q h => ?_
  refine (tG.seq (rl := RelD W) (g := fun env a S1 => (fArgs fs env S1).bind fun ds S2 => .ok (a :: ds) S2) h).mono fun x H1 q => ?_
  obtain ⟨env, m, S, a, h1, h2, h3, h4⟩ := q
  refine (tG.seq2 (rl := RelDs W) (rl0 := RelD W) (fun a v e r => RelD.ext e a v r) h1 h2 h3 h4).mono fun y H2 q => ?_
  obtain ⟨m2, S2, b, _, g2, g3, g4, g5⟩ := q
  exact g5 H2 m2 _ Ext.refl g2 (by unfold RelDs; exact ⟨x, y, rfl, g3, g4⟩)
/-- an operation behind the arguments -/
def fOpA (f : OpA) (fs : En → Sto → R (List D)) : En → Sto → R D := fun env S => (fs env S).bind fun ds S1 => R.of (f ds S1)
theorem fOpA_read {f : OpA} {fs : En → Sto → R (List D)} {σ : St} {H : Hp} {Q : VK} (h : tE W E (fOpA f fs) σ H Q) : tA W E fs σ H fun vs H1 => rOpA W f vs H1 Q := by
  refine (tG.seq (rl := RelDs W) (g := fun env a S1 => R.of (f a S1)) h).mono fun x H1 q => ?_
  obtain ⟨env, m, S, a, h1, h2, h3, h4⟩ := q
  exact ⟨m, S, a, h2, h3, h4.of⟩
def opTup : OpA := fun ds S => if ds.length ≤ 1000000 then some (.tup ds, S) else none
def opLst : OpA := fun ds S => if ds.length ≤ 1000000 then some (.loc S.n, S.push (.lst ds)) else none
theorem z_tup {k : Nat} {fs : En → Sto → R (List D)} (h : PA X es (tA W E fs)) : PE X (.Tuple es k pos) (tE W E (fOpA opTup fs)) := by
  refine pe_imp (pe_tup h) fun σ H Q q => (fOpA_read q).mono fun vs H1 q => ?_
  obtain ⟨m, S, ds, rs, r, p⟩ := q
  unfold opTup at p
  split at p
  · rename_i hl
    exact ⟨Nat.le_trans (by rw [r.len]; exact hl) line1000000, fun l hp => p.new rs hp (relD_tup rs hp r)⟩
  · exact p.elim
theorem z_lst {fs : En → Sto → R (List D)} (h : PA X es (tA W E fs)) : PE X (.List es pos) (tE W E (fOpA opLst fs)) := by
  refine pe_imp (pe_lst h) fun σ H Q q => (fOpA_read q).mono fun vs H1 q => ?_
  obtain ⟨m, S, ds, rs, r, p⟩ := q
  unfold opLst at p
  split at p
  · rename_i hl
    exact ⟨Nat.le_trans (by rw [r.len]; exact hl) line1000000, fun l hp => p.newS (o := .lst vs) rs hp ⟨vs, rfl, r⟩ relD_loc⟩
  · exact p.elim
/-- a builtin called -/
theorem z_callB {f : OpA} {fs : En → Sto → R (List D)} {id : String} {x : Str} {p : Pos} (hc : CallR X (.builtin id) (rOpA W f)) (hg : Gl X x) (hm : X.mg x = none) (hv : bootBuiltins x = some (.builtin id)) (ha : PA X (e :: es) (tA W E fs))
    (hn : x ≠ "__name__") (hdb : (x == ("__debug__" : Str)) = false) (he : starEach (e :: es) X.env = (false, eval e X.env) :: starEach es X.env) (hpl : (backTo pos (starEach es X.env)).any (·.1) = false) :
    PE X (.Call (.Name x p) (e :: es) [] pos) (tE W E (fOpA f fs)) := pe_imp (pe_callB hc hg hm hv ha hn hdb he hpl) fun _ _ _ h => fOpA_read h
theorem z_callTy {f : OpA} {fs : En → Sto → R (List D)} {T : String} {x : Str} {p : Pos} (hc : CallR X (.type T) (rOpA W f)) (hg : Gl X x) (hm : X.mg x = none) (hv : bootBuiltins x = some (.type T)) (ha : PA X (e :: es) (tA W E fs))
    (hn : x ≠ "__name__") (hdb : (x == ("__debug__" : Str)) = false) (he : starEach (e :: es) X.env = (false, eval e X.env) :: starEach es X.env) (hpl : (backTo pos (starEach es X.env)).any (·.1) = false) :
    PE X (.Call (.Name x p) (e :: es) [] pos) (tE W E (fOpA f fs)) := pe_imp (pe_callTy hc hg hm hv ha hn hdb he hpl) fun _ _ _ h => fOpA_read h

/-! ### subscripts -/
theorem z_ix {f : Op2} (hr : IxR X (rOp W f)) (ha : PE X a (tE W E fa)) (hb : PE X b (tE W E fb)) (hs : PlainIx b) : PE X (.Subscript a b pos) (tE W E (fBin f fa fb)) := pe_imp (pe_ix hr ha hb hs) fun _ _ _ h => fBin_read h

/-! ### tests -/
def truD : D → Sto → Option Bool
  | .non, _ => some false
  | .bl b, _ => some b
  | .int i, _ => some (i != 0)
  | .str x, _ => if x.length ≤ 1000000 then some ((x.length : Int) != 0) else none
  | .tup ds, _ => some (!ds.isEmpty)
  | .ktp ds, _ => some (!ds.isEmpty)
  | .loc k, S => match S.get k with
    | some (.lst ds) => some (!ds.isEmpty)
    | _ => none
  | _, _ => none
/-- a value's truth -/
def fTru (f : En → Sto → R D) : En → Sto → R Bool := fun env S => (f env S).bind fun d S1 => match truD d S1 with
  | some k => .ok k S1
  | none => .no
theorem isEmpty_len {α β : Type} {xs : List α} {ys : List β} (h : xs.length = ys.length) : xs.isEmpty = ys.isEmpty := by
  cases xs <;> cases ys <;> simp_all
theorem truD_ok {H : Hp} {m : Nat → Addr} {S : Sto} {d : D} {v : V} {k : Bool} (rs : RelS W H m S) (r : RelD W H m S.n d v) (h : truD d S = some k) : TruV W.K v H k := by
  cases d with
  | non => unfold RelD at r; subst r; unfold truD at h; cases h; rfl
  | bl b => unfold RelD at r; subst r; unfold truD at h; cases h; rfl
  | int i => unfold RelD at r; subst r; unfold truD at h; cases h; rfl
  | str x =>
    unfold RelD at r; subst r
    have h : (if x.length ≤ 1000000 then some ((x.length : Int) != 0) else none) = some k := h
    by_cases hl : x.length ≤ 1000000
    · rw [if_pos hl] at h
      cases h
      exact ⟨Nat.le_trans hl line1000000, rfl⟩
    · rw [if_neg hl] at h
      cases h
  | tup ds =>
    unfold RelD at r
    obtain ⟨p, vs, e, t, q⟩ := r
    subst e
    unfold truD at h
    cases h
    exact .inr (.inl ⟨vs, t.sq, by rw [isEmpty_len q.len]⟩)
  | ktp ds =>
    unfold RelD at r
    obtain ⟨p, vs, e, t, q⟩ := r
    subst e
    cases h
    exact .inr (.inl ⟨vs, t.sq, by rw [isEmpty_len q.len]⟩)
  | loc j =>
    unfold RelD at r
    obtain ⟨hj, e⟩ := r
    subst e
    obtain ⟨o, ho, g, hm, q⟩ := rs.at_ j hj
    have h : (match S.get j with
      | some (.lst ds) => some (!ds.isEmpty)
      | _ => none) = some k := h
    rw [g] at h
    cases o with
    | lst ds =>
      cases h
      obtain ⟨vs, e2, q2⟩ := q
      subst e2
      exact .inl ⟨vs, SqL.of hm, by rw [isEmpty_len q2.len]⟩
    | _ => cases h
  | exc c x => cases h
  | sq c => cases h
  | lam c => cases h
theorem fTru_read {f : En → Sto → R D} {σ : St} {H : Hp} {Q : Bool → Hp → Prop} (h : tT W E (fTru f) σ H Q) : tE W E f σ H fun x H1 => ∃ k, TruV W.K x H1 k ∧ Q k H1 := by
  refine (tG.seq (rl := RelD W) (g := fun env d S1 => match truD d S1 with | some k => .ok k S1 | none => .no) h).mono fun x H1 q => ?_
  obtain ⟨env, m, S, d, h1, h2, h3, h4⟩ := q
  cases ht : truD d S with
  | none => rw [ht] at h4; exact h4.elim
  | some k =>
    rw [ht] at h4
    exact ⟨k, truD_ok h2 h3 ht, h4 H1 m k Ext.refl h2 rfl⟩
theorem z_test (hK : X.K = W.K) (ha : PE X a (tE W E fa)) (he : ∀ whole, isTrue a X.env whole = (do let v ← whole; standAt a.pos; holding [v] (truthy v))) : PT X a (tT W E (fTru fa)) :=
  pt_imp (pt_truth ha he) fun σ H Q h => by rw [hK]; exact fTru_read h
/-- a value that is a bool -/
def fBl (f : En → Sto → R D) : En → Sto → R Bool := fun env S => (f env S).bind fun d S1 => match d with
  | .bl k => .ok k S1
  | _ => .no
theorem fBl_read {f : En → Sto → R D} {σ : St} {H : Hp} {Q : Bool → Hp → Prop} (h : tT W E (fBl f) σ H Q) : tE W E f σ H fun x H1 => ∃ k, x = .bl k ∧ Q k H1 := by
  refine (tG.seq (rl := RelD W) (g := fun env d S1 => match d with | .bl k => .ok k S1 | _ => .no) h).mono fun x H1 q => ?_
  obtain ⟨env, m, S, d, h1, h2, h3, h4⟩ := q
  cases d with
  | bl k =>
    unfold RelD at h3
    exact ⟨k, h3, h4 H1 m k Ext.refl h2 rfl⟩
  | _ => exact h4.elim
theorem z_tcmp {op : CmpOp} {f : Op2} (ho : OpR X (compareOp op) (rOp W f)) (ha : PE X a (tE W E fa)) (hb : PE X b (tE W E fb)) (hm : behindInMarks op b = false) : PT X (.Compare a [op] [b] pos) (tT W E (fBl (fBin f fa fb))) :=
  pt_imp (pt_cmpR ho ha hb hm) fun σ H Q h => by
    have q := fBl_read h
    exact fBin_read q
/-- .. two in a chain -/
def fChain (f f' : Op2) (fa fb fc : En → Sto → R D) : En → Sto → R D := fun env S => (fa env S).bind fun a S1 => (fb env S1).bind fun b S2 => (R.of (f a b S2)).bind fun d S3 => match d with
  | .bl true => (fc env S3).bind fun c S4 => R.of (f' b c S4)
  | .bl false => .ok (.bl false) S3
  | _ => .no
theorem fChain_read {f f' : Op2} {σ : St} {H : Hp} {Q : VK} (h : tE W E (fChain f f' fa fb fc) σ H Q) : tChain (rOp W f) (rOp W f') (tE W E fa) (tE W E fb) (tE W E fc) σ H Q := by
  refine (tG.seq (rl := RelD W) (g := fun env a S1 => (fb env S1).bind fun b S2 => (R.of (f a b S2)).bind fun d S3 => match d with
    | .bl true => (fc env S3).bind fun c S4 => R.of (f' b c S4)
    | .bl false => .ok (.bl false) S3
    | _ => .no) h).mono fun x H1 q => ?_
  obtain ⟨env, m, S, a, h1, h2, h3, h4⟩ := q
  refine (tG.seq2 (rl := RelD W) (rl0 := RelD W) (fun a v e r => RelD.ext e a v r) h1 h2 h3 h4).mono fun y H2 q => ?_
  obtain ⟨m2, S2, b, g1, g2, g3, g4, g5⟩ := q
  refine ⟨m2, S2, a, b, g2, g3, g4, ?_⟩
  have key : PostG W (RelD W) (E σ) H2 m2 S2.n (R.of (f a b S2)) _ := g5.bind (rl := RelD W)
  refine (show ∀ Q', PostG W (RelD W) (E σ) H2 m2 S2.n (R.of (f a b S2)) Q' → PostO W (RelD W) H2 m2 S2.n (f a b S2) Q' from fun Q' z => z.of) _ (key.mono fun z H3 q => ?_)
  obtain ⟨m3, S3, d, e3, rs3, r3, p3⟩ := q
  cases d with
  | bl k =>
    unfold RelD at r3
    refine ⟨k, r3, ?_⟩
    cases k with
    | false =>
      refine (if_neg Bool.false_ne_true : _ = _) ▸ ?_
      exact p3 H3 m3 _ Ext.refl rs3 (by unfold RelD; rfl)
    | true =>
      refine (if_pos rfl : _ = _) ▸ ?_
      refine (tG.seq2 (rl := RelD W) (rl0 := RelD W) (f := fc) (fun a v e r => RelD.ext e a v r) (g1.ext e3) rs3 (RelD.ext e3 _ _ g4) p3).mono fun w H4 q => ?_
      obtain ⟨m4, S4, c, k1, k2, k3, k4, k5⟩ := q
      exact ⟨m4, S4, b, c, k2, k3, k4, k5.of⟩
  | _ => exact p3.elim
theorem z_chain {op op' : CmpOp} {f f' : Op2} (ho : OpR X (compareOp op) (rOp W f)) (ho' : OpR X (compareOp op') (rOp W f')) (ha : PE X a (tE W E fa)) (hb : PE X b (tE W E fb)) (hc : PE X c (tE W E fc)) (hm : lastMarks [op, op'] [b, c] = false) :
    PE X (.Compare a [op, op'] [b, c] pos) (tE W E (fChain f f' fa fb fc)) := pe_imp (pe_chain ho ho' ha hb hc hm) fun _ _ _ h => fChain_read h
theorem z_tchain {op op' : CmpOp} {f f' : Op2} (ho : OpR X (compareOp op) (rOp W f)) (ho' : OpR X (compareOp op') (rOp W f')) (ha : PE X a (tE W E fa)) (hb : PE X b (tE W E fb)) (hc : PE X c (tE W E fc)) (hm : lastMarks [op, op'] [b, c] = false) :
    PT X (.Compare a [op, op'] [b, c] pos) (tT W E (fBl (fChain f f' fa fb fc))) := pt_imp (pt_chain ho ho' ha hb hc hm) fun _ _ _ h => by
  have q := fBl_read h
  exact fChain_read q

/-! ### and, or, not, if -/
def fAndT (f g : En → Sto → R Bool) : En → Sto → R Bool := fun env S => (f env S).bind fun k S1 => if k = true then g env S1 else .ok false S1
def fOrT (f g : En → Sto → R Bool) : En → Sto → R Bool := fun env S => (f env S).bind fun k S1 => if k = true then .ok true S1 else g env S1
def fNotT (f : En → Sto → R Bool) : En → Sto → R Bool := fun env S => (f env S).bind fun k S1 => .ok (!k) S1
theorem z_and1 {tA : En → Sto → R Bool} (ha : PT X a (tT W E tA)) : PW X (.BoolOp .And [a] pos) (tT W E tA) := pw_and1 ha
theorem z_or1 {tA : En → Sto → R Bool} (ha : PT X a (tT W E tA)) : PW X (.BoolOp .Or [a] pos) (tT W E tA) := pw_or1 ha
theorem z_andT (ha : PT X a (tT W E ta)) (hb : PW X (.BoolOp .And (b :: rest) pos) (tT W E tb)) : PW X (.BoolOp .And (a :: b :: rest) pos) (tT W E (fAndT ta tb)) := by
  refine pw_imp (pw_and ha hb) fun σ H Q h => ?_
  refine (tG.seq (rl := rB) (g := fun env k S1 => if k = true then tb env S1 else .ok false S1) h).mono fun x H1 q => ?_
  obtain ⟨env, m, S, k, h1, h2, h3, h4⟩ := q
  have e : k = x := h3
  subst e
  cases k with
  | true => exact (if_pos rfl : _ = _) ▸ ⟨env, m, S, h1, h2, h4⟩
  | false => exact (if_neg Bool.false_ne_true : _ = _) ▸ (h4 H1 m false Ext.refl h2 rfl)
theorem z_orT (ha : PT X a (tT W E ta)) (hb : PW X (.BoolOp .Or (b :: rest) pos) (tT W E tb)) : PW X (.BoolOp .Or (a :: b :: rest) pos) (tT W E (fOrT ta tb)) := by
  refine pw_imp (pw_or ha hb) fun σ H Q h => ?_
  refine (tG.seq (rl := rB) (g := fun env k S1 => if k = true then .ok true S1 else tb env S1) h).mono fun x H1 q => ?_
  obtain ⟨env, m, S, k, h1, h2, h3, h4⟩ := q
  have e : k = x := h3
  subst e
  cases k with
  | true => exact (if_pos rfl : _ = _) ▸ (h4 H1 m true Ext.refl h2 rfl)
  | false => exact (if_neg Bool.false_ne_true : _ = _) ▸ ⟨env, m, S, h1, h2, h4⟩
theorem z_notT (ha : PT X a (tT W E ta)) : PT X (.UnaryOp .Not a pos) (tT W E (fNotT ta)) := by
  refine pt_imp (pt_not ha) fun σ H Q h => ?_
  refine (tG.seq (rl := rB) (g := fun env k S1 => .ok (!k) S1) h).mono fun x H1 q => ?_
  obtain ⟨env, m, S, k, h1, h2, h3, h4⟩ := q
  have e : k = x := h3
  subst e
  exact h4 H1 m _ Ext.refl h2 rfl
/-- as values, by truth -/
def fAndV (f g : En → Sto → R D) : En → Sto → R D := fun env S => (f env S).bind fun d S1 => match truD d S1 with
  | some true => g env S1
  | some false => .ok d S1
  | none => .no
def fOrV (f g : En → Sto → R D) : En → Sto → R D := fun env S => (f env S).bind fun d S1 => match truD d S1 with
  | some true => .ok d S1
  | some false => g env S1
  | none => .no
def fNotV (f : En → Sto → R D) : En → Sto → R D := fun env S => (f env S).bind fun d S1 => match truD d S1 with
  | some k => .ok (.bl (!k)) S1
  | none => .no
theorem z_one {op : BoolOp} (ha : PE X a (tE W E fa)) : PE X (.BoolOp op [a] pos) (tE W E fa) := pe_one ha
theorem z_andV (hK : X.K = W.K) (ha : PE X a (tE W E fa)) (hb : PE X (.BoolOp .And (b :: rest) pos) (tE W E fb)) : PE X (.BoolOp .And (a :: b :: rest) pos) (tE W E (fAndV fa fb)) := by
  refine pe_imp (pe_andT ha hb) fun σ H Q h => ?_
  rw [hK]
  refine (tG.seq (rl := RelD W) (g := fun env d S1 => match truD d S1 with | some true => fb env S1 | some false => .ok d S1 | none => .no) h).mono fun x H1 q => ?_
  obtain ⟨env, m, S, d, h1, h2, h3, h4⟩ := q
  cases ht : truD d S with
  | none => rw [ht] at h4; exact h4.elim
  | some k =>
    rw [ht] at h4
    refine ⟨k, truD_ok h2 h3 ht, ?_⟩
    cases k with
    | true => exact (if_pos rfl : _ = _) ▸ ⟨env, m, S, h1, h2, h4⟩
    | false => exact (if_neg Bool.false_ne_true : _ = _) ▸ (h4 H1 m x Ext.refl h2 h3)
theorem z_orV (hK : X.K = W.K) (ha : PE X a (tE W E fa)) (hb : PE X (.BoolOp .Or (b :: rest) pos) (tE W E fb)) : PE X (.BoolOp .Or (a :: b :: rest) pos) (tE W E (fOrV fa fb)) := by
  refine pe_imp (pe_orT ha hb) fun σ H Q h => ?_
  rw [hK]
  refine (tG.seq (rl := RelD W) (g := fun env d S1 => match truD d S1 with | some true => .ok d S1 | some false => fb env S1 | none => .no) h).mono fun x H1 q => ?_
  obtain ⟨env, m, S, d, h1, h2, h3, h4⟩ := q
  cases ht : truD d S with
  | none => rw [ht] at h4; exact h4.elim
  | some k =>
    rw [ht] at h4
    refine ⟨k, truD_ok h2 h3 ht, ?_⟩
    cases k with
    | true => exact (if_pos rfl : _ = _) ▸ (h4 H1 m x Ext.refl h2 h3)
    | false => exact (if_neg Bool.false_ne_true : _ = _) ▸ ⟨env, m, S, h1, h2, h4⟩
theorem z_notV (hK : X.K = W.K) (ha : PE X a (tE W E fa)) : PE X (.UnaryOp .Not a pos) (tE W E (fNotV fa)) := by
  refine pe_imp (pe_notT ha) fun σ H Q h => ?_
  rw [hK]
  refine (tG.seq (rl := RelD W) (g := fun env d S1 => match truD d S1 with | some k => (R.ok (D.bl (!k)) S1 : R D) | none => R.no) h).mono fun x H1 q => ?_
  obtain ⟨env, m, S, d, h1, h2, h3, h4⟩ := q
  cases ht : truD d S with
  | none => rw [ht] at h4; exact h4.elim
  | some k =>
    rw [ht] at h4
    exact ⟨k, truD_ok h2 h3 ht, h4 H1 m _ Ext.refl h2 (by unfold RelD; rfl)⟩
def fIf (t : En → Sto → R Bool) (f g : En → Sto → R D) : En → Sto → R D := fun env S => (t env S).bind fun k S1 => if k = true then f env S1 else g env S1
theorem z_if {t : Expr} {ft : En → Sto → R Bool} (ht : PT X t (tT W E ft)) (ha : PE X a (tE W E fa)) (hb : PE X b (tE W E fb)) : PE X (.IfExp t a b pos) (tE W E (fIf ft fa fb)) := by
  refine pe_imp (pe_ifExp ht ha hb) fun σ H Q h => ?_
  refine (tG.seq (rl := rB) (g := fun env k S1 => if k = true then fa env S1 else fb env S1) h).mono fun x H1 q => ?_
  obtain ⟨env, m, S, k, h1, h2, h3, h4⟩ := q
  have e : k = x := h3
  subst e
  cases k with
  | true => exact (if_pos rfl : _ = _) ▸ ⟨env, m, S, h1, h2, h4⟩
  | false => exact (if_neg Bool.false_ne_true : _ = _) ▸ ⟨env, m, S, h1, h2, h4⟩
end
end Z
set_option Elab.async false
set_option linter.all false
set_option autoImplicit false
set_option maxRecDepth 100000
/-! Z4: statements, defs, calls. -/
namespace Z
open PySem PySem.Spec PyProof.Rows L2

inductive Fl where
  | nx (env : En)
  | rt (d : D)
  | bk (env : En)
  | ct (env : En)
inductive RS where
  | ok (f : Fl) (S : Sto)
  | exc (c : Nat) (v : D) (env : En) (S : Sto)
  | no
def PostS (W : Wd) (E : St → XK) (D0 : Ends) (H : Hp) (m : Nat → Addr) (n : Nat) : RS → Prop
  | .ok (.nx env') S' => ∀ H' m' σ', Ext W H m n H' m' S'.n → RelS W H' m' S' → RelEn W H' m' S'.n env' σ' → D0.nx σ' H'
  | .ok (.rt d) S' => ∀ H' m' v, Ext W H m n H' m' S'.n → RelS W H' m' S' → RelD W H' m' S'.n d v → D0.rt v H'
  | .ok (.bk env') S' => ∀ H' m' σ', Ext W H m n H' m' S'.n → RelS W H' m' S' → RelEn W H' m' S'.n env' σ' → D0.bk σ' H'
  | .ok (.ct env') S' => ∀ H' m' σ', Ext W H m n H' m' S'.n → RelS W H' m' S' → RelEn W H' m' S'.n env' σ' → D0.ct σ' H'
  | .exc c x env' S' => ∀ H' m' σ' d u, Ext W H m n H' m' S'.n → RelS W H' m' S' → RelEn W H' m' S'.n env' σ' → H' d = some (.xd [("value", u)]) → Off m' S'.n d → RelD W H' m' S'.n x u → E σ' (.ref (W.ca c)) (some d) H'
  | .no => False
def tS (W : Wd) (E : St → XK) (g : En → Sto → RS) : TS := fun D0 σ H => ∃ env m S, RelEn W H m S.n env σ ∧ RelS W H m S ∧ PostS W E D0 H m S.n (g env S)
def R.st {α : Type} (r : R α) (env : En) (g : α → Sto → RS) : RS := match r with
  | .ok a S => g a S
  | .exc c v S => .exc c v env S
  | .no => .no
section
variable {W : Wd} {E : St → XK} {D0 : Ends} {H H' : Hp} {m m' : Nat → Addr} {n n' : Nat}
theorem PostS.ext (e : Ext W H m n H' m' n') {r : RS} (h : PostS W E D0 H m n r) : PostS W E D0 H' m' n' r := by
  cases r with
  | ok f S =>
    cases f with
    | nx env => exact fun H2 m2 σ2 e2 rs q => h H2 m2 σ2 (e.trans e2) rs q
    | rt d => exact fun H2 m2 σ2 e2 rs q => h H2 m2 σ2 (e.trans e2) rs q
    | bk env => exact fun H2 m2 σ2 e2 rs q => h H2 m2 σ2 (e.trans e2) rs q
    | ct env => exact fun H2 m2 σ2 e2 rs q => h H2 m2 σ2 (e.trans e2) rs q
  | exc c x env S => exact fun H2 m2 σ2 d u e2 rs q1 q2 q3 q4 => h H2 m2 σ2 d u (e.trans e2) rs q1 q2 q3 q4
  | no => exact h
theorem R.st_run {α β : Type} {rl : Rl α β} {env : En} {σ : St} {S : Sto} (h1 : RelEn W H m S.n env σ) {r : R α} {g : α → Sto → RS} (h : PostS W E D0 H m S.n (r.st env g)) :
    PostG W rl (E σ) H m S.n r fun v H1 => ∃ m1 S1 a, Ext W H m S.n H1 m1 S1.n ∧ RelEn W H1 m1 S1.n env σ ∧ RelS W H1 m1 S1 ∧ rl H1 m1 S1.n a v ∧ PostS W E D0 H1 m1 S1.n (g a S1) := by
  cases r with
  | ok a S' => exact fun H2 m2 v e2 rs q => ⟨m2, S', a, e2, h1.ext e2, rs, q, PostS.ext e2 h⟩
  | exc c x S' => exact fun H2 m2 d u e2 rs q1 q2 q3 => h H2 m2 σ d u e2 rs (h1.ext e2) q1 q2 q3
  | no => exact h
theorem tS.run {α β : Type} {rl : Rl α β} {f : En → Sto → R α} {g : En → α → Sto → RS} {σ : St} (h : tS W E (fun env S => (f env S).st env (g env)) D0 σ H) :
    tG W rl E f σ H fun v H1 => ∃ env m S a, RelEn W H1 m S.n env σ ∧ RelS W H1 m S ∧ rl H1 m S.n a v ∧ PostS W E D0 H1 m S.n (g env a S) := by
  obtain ⟨env, m, S, h1, h2, h3⟩ := h
  refine ⟨env, m, S, h1, h2, (R.st_run (rl := rl) h1 h3).mono fun v H1 q => ?_⟩
  obtain ⟨m1, S1, a, _, g1, g2, g3, g4⟩ := q
  exact ⟨env, m1, S1, a, g1, g2, g3, g4⟩
end

section
variable {X : Cx} {W : Wd} {E : St → XK} {pos : Pos} {a b e : Expr} {fa : En → Sto → R D}
/-! ### small statements -/
def gSet (i : Nat) (f : En → Sto → R D) : En → Sto → RS := fun env S => (f env S).st env fun d S1 => .ok (.nx (env.set i (some d))) S1
theorem z_set {i : Nat} {x : Str} {pos' : Pos} (hN : X.N.Nodup) (hi : X.N[i]? = some x) (hx : Loc X.env.scope x) (he : PE X e (tE W E fa)) (hs : swapsWith e (some (.Name x pos')) pos.line X.env = pure false) (hf : X.fn x = true ∨ X.env.scope.names.lookup x = some .local) :
    PS X (.Assign [.Name x pos'] e pos) (tS W E (gSet i fa)) := by
  refine ps_imp (ps_set hN hi hx he hs hf) fun D0 σ H h => ?_
  refine (tS.run (rl := RelD W) (g := fun env d S1 => .ok (.nx (env.set i (some d))) S1) h).mono fun v H1 q => ?_
  obtain ⟨env, m, S, d, g1, g2, g3, g4⟩ := q
  exact g4 H1 m _ Ext.refl g2 (g1.set g3)
def gPass : En → Sto → RS := fun env S => .ok (.nx env) S
theorem z_pass : PS X (.Pass pos) (tS W E gPass) := by
  refine ps_imp ps_pass fun D0 σ H h => ?_
  obtain ⟨env, m, S, h1, h2, h3⟩ := h
  exact h3 H m σ Ext.refl h2 h1
def gBrk : En → Sto → RS := fun env S => .ok (.bk env) S
theorem z_brk : PS X (.Break pos) (tS W E gBrk) := by
  refine ps_imp ps_break fun D0 σ H h => ?_
  obtain ⟨env, m, S, h1, h2, h3⟩ := h
  exact h3 H m σ Ext.refl h2 h1
def gCnt : En → Sto → RS := fun env S => .ok (.ct env) S
theorem z_cnt : PS X (.Continue pos) (tS W E gCnt) := by
  refine ps_imp ps_continue fun D0 σ H h => ?_
  obtain ⟨env, m, S, h1, h2, h3⟩ := h
  exact h3 H m σ Ext.refl h2 h1
theorem z_doc {x : Str} {j : Nat} {pos' : Pos} : PS X (.Expr (.Constant (.str x) j pos) pos') (tS W E gPass) := by
  refine ps_imp ps_doc fun D0 σ H h => ?_
  obtain ⟨env, m, S, h1, h2, h3⟩ := h
  exact h3 H m σ Ext.refl h2 h1
def gEx (f : En → Sto → R D) : En → Sto → RS := fun env S => (f env S).st env fun _ S1 => .ok (.nx env) S1
theorem z_ex (he : PE X e (tE W E fa)) (hs : swapsWith e none pos.line X.env = pure false) : PS X (.Expr e pos) (tS W E (gEx fa)) := by
  refine ps_imp (ps_expr he hs) fun D0 σ H h => ?_
  refine (tS.run (rl := RelD W) (g := fun env d S1 => .ok (.nx env) S1) h).mono fun v H1 q => ?_
  obtain ⟨env, m, S, d, g1, g2, g3, g4⟩ := q
  exact g4 H1 m _ Ext.refl g2 g1
def gRet (f : En → Sto → R D) : En → Sto → RS := fun env S => (f env S).st env fun d S1 => .ok (.rt d) S1
theorem z_ret (he : PE X e (tE W E fa)) : PS X (.Return (some e) pos) (tS W E (gRet fa)) := by
  refine ps_imp (ps_ret he) fun D0 σ H h => ?_
  refine (tS.run (rl := RelD W) (g := fun env d S1 => .ok (.rt d) S1) h).mono fun v H1 q => ?_
  obtain ⟨env, m, S, d, g1, g2, g3, g4⟩ := q
  exact g4 H1 m _ Ext.refl g2 g3
def gRetN : En → Sto → RS := fun _ S => .ok (.rt .non) S
theorem z_retN : PS X (.Return none pos) (tS W E gRetN) := by
  refine ps_imp ps_retN fun D0 σ H h => ?_
  obtain ⟨env, m, S, h1, h2, h3⟩ := h
  exact h3 H m .non Ext.refl h2 (by unfold RelD; rfl)
def gIte (t : En → Sto → R Bool) (g1 g2 : En → Sto → RS) : En → Sto → RS := fun env S => (t env S).st env fun k S1 => if k = true then g1 env S1 else g2 env S1
theorem z_ite {c : Expr} {sa sb : List Stmt} {t : En → Sto → R Bool} {g1 g2 : En → Sto → RS} (hc : PT X c (tT W E t)) (ha : PSs X sa (tS W E g1)) (hb : PSs X sb (tS W E g2)) : PS X (.If c sa sb pos) (tS W E (gIte t g1 g2)) := by
  refine ps_imp (ps_if hc ha hb) fun D0 σ H h => ?_
  refine (tS.run (rl := rB) (g := fun env k S1 => if k = true then g1 env S1 else g2 env S1) h).mono fun v H1 q => ?_
  obtain ⟨env, m, S, k, h1, h2, h3, h4⟩ := q
  have ek : k = v := h3
  subst ek
  cases k with
  | true => exact (if_pos rfl : _ = _) ▸ ⟨env, m, S, h1, h2, h4⟩
  | false => exact (if_neg Bool.false_ne_true : _ = _) ▸ ⟨env, m, S, h1, h2, h4⟩
/-! ### blocks -/
def gNil : En → Sto → RS := gPass
def RS.seq (r : RS) (g : En → Sto → RS) : RS := match r with
  | .ok (.nx env) S => g env S
  | r => r
def gSeq (g1 g2 : En → Sto → RS) : En → Sto → RS := fun env S => (g1 env S).seq g2
theorem z_nilS : PSs X [] (tS W E gNil) := by
  refine pss_imp pss_nil fun D0 σ H h => ?_
  obtain ⟨env, m, S, h1, h2, h3⟩ := h
  exact h3 H m σ Ext.refl h2 h1
theorem z_seq {st : Stmt} {rest : List Stmt} {g1 g2 : En → Sto → RS} (h1 : PS X st (tS W E g1)) (h2 : PSs X rest (tS W E g2)) : PSs X (st :: rest) (tS W E (gSeq g1 g2)) := by
  refine pss_imp (pss_cons h1 h2) fun D0 σ H h => ?_
  obtain ⟨env, m, S, k1, k2, k3⟩ := h
  refine ⟨env, m, S, k1, k2, ?_⟩
  have k3 : PostS W E D0 H m S.n ((g1 env S).seq g2) := k3
  cases q : g1 env S with
  | ok f S1 =>
    rw [q] at k3
    cases f with
    | nx env1 => exact fun H1 m1 σ1 e rs r => ⟨env1, m1, S1, r, rs, PostS.ext e k3⟩
    | rt d => exact k3
    | bk env1 => exact k3
    | ct env1 => exact k3
  | exc c x env1 S1 => rw [q] at k3; exact k3
  | no => rw [q] at k3; exact k3

/-! ### a def's promise by a run -/
/-- a def: its arguments and the store to a result -/
abbrev Fn := List D → Sto → R D
def spF (W : Wd) (k : Nat) (F : Fn) : Sp := fun vs H Q E0 => ∃ m S ds, vs.length = k ∧ RelS W H m S ∧ RelDs W H m S.n ds vs ∧ PostG W (RelD W) E0 H m S.n (F ds S) Q
/-- room, and no repr under way -/
structure RoomG (k : Nat) (A : Around) : Prop extends Room k A where
  gs : A.guards = some []
theorem RoomG.mono {j k : Nat} {A : Around} (r : RoomG k A) (h : j ≤ k) : RoomG j A := ⟨r.toRoom.mono h, r.gs⟩
theorem RoomG.deeper {k : Nat} {A : Around} (r : RoomG (k + 1) A) (env : Env) : RoomG k (A.deeper env) := ⟨r.toRoom.deeper env, r.gs⟩
/-- a def keeps a promise -/
structure FnZ (P : Program) (w : World) (K : PySem.W.Frag) (mg : Str → Option Value) (base : Heap) (k : Nat) (f : Addr) (fd : FuncData) (ps : List Str) (sp : Sp) : Prop where
  len : ∀ vs H Q E, sp vs H Q E → vs.length = ps.length
  run : ∀ (A : Around) (outer : List Env) (s : Shared) (H : Hp) (args : Args) (us : List Value) (vs : List V) (Q : VK) (E : XK), RoomG k A → Env0 P w K mg base A outer s H → BindsTo s fd args (ps.zip us) → Vals vs us → sp vs H Q E →
    codeAny (model P w) A (.call (.ref f) args) (CR (L2.CX P w) outer P w H s Q E) s
theorem FnZ.mono {P : Program} {w : World} {K : PySem.W.Frag} {mg : Str → Option Value} {base : Heap} {j k : Nat} {f : Addr} {fd : FuncData} {ps : List Str} {sp : Sp} (F : FnZ P w K mg base j f fd ps sp) (h : j ≤ k) : FnZ P w K mg base k f fd ps sp :=
  ⟨F.len, fun A outer s H args us vs Q E hr => F.run A outer s H args us vs Q E (hr.mono h)⟩
theorem FnZ.imp {P : Program} {w : World} {K : PySem.W.Frag} {mg : Str → Option Value} {base : Heap} {k : Nat} {f : Addr} {fd : FuncData} {ps : List Str} {sp sp' : Sp} (F : FnZ P w K mg base k f fd ps sp) (h : ∀ vs H Q E, sp' vs H Q E → sp vs H Q E) : FnZ P w K mg base k f fd ps sp' :=
  ⟨fun vs H Q E q => F.len vs H Q E (h _ _ _ _ q), fun A outer s H args us vs Q E hr he hb hv hs => F.run A outer s H args us vs Q E hr he hb hv (h _ _ _ _ hs)⟩
/-- from the text of a def -/
theorem FnZ.of {P : Program} {w : World} {K : PySem.W.Frag} {mg : Str → Option Value} {base : Heap} {x qual : Str} {params : Arguments} {body : List Stmt} {scope : Scope} {dvs : List V} {kws : List (Str × V)} {f : Addr} {fd : FuncData} {N ps : List Str} {k : Nat} {sp : Sp}
    (F : FunD K x qual params body scope dvs kws f fd) (S : FnScope N ps scope) (len : ∀ vs H Q E, sp vs H Q E → vs.length = ps.length)
    (hbody : ∀ (cdv : Value) (A : Around) (outer : List Env) (s : Shared) (H : Hp) (vs : List V) (Q : VK) (E : XK), RoomG k (A.deeper (envOfC qual scope s.heap.objs.size f cdv)) → PySem.W.codeIn K cdv qual = true → sp vs H Q E →
      ∃ t, PSs (cxOf (L2.CX P w) P w K mg base N qual scope f cdv A outer s H E) body t ∧ t { nx := fun _ H' => Q .non H', rt := Q } (L2.start N vs) H) : FnZ P w K mg base (k + 1) f fd ps sp := by
  obtain ⟨oc, od, dV, kV, doc, pm, an, cdv, ct, osl, rfl, lk, hcd, _, _⟩ := F.ex
  refine ⟨len, fun A outer s H args us vs Q E hr e0 hb r hsp => ?_⟩
  have hl := len _ _ _ _ hsp
  have KX : K.In s.heap := e0.mod.kin.keeps fun b o e => (e0.bs b o e).1
  have lim : s.heap.NoLimit := e0.mod.nolimit.keeps fun b o e => (e0.bs b o e).1
  have hkind : ∀ y ∈ ps.zip us, scope.names.lookup y.1 = some .local ∨ (scope.names.lookup y.1 = some .cell ∧ ((cellsFrom (s.heap.objs.size + 1) scope.names []).lookup y.1).isSome = true) := fun y hy => by
    rcases S.par y.1 (List.of_mem_zip hy).1 with q | q
    · exact .inl q
    · exact .inr ⟨q, PySem.W.cellsFrom_some _ _ _ (.inl q)⟩
  refine codeAny_call_function hr.depth (KX _ _ lk) rfl S.co S.gen rfl (PySem.W.codeRec_of KX hcd) (hb _ _ _ _ ?_)
  refine wpAny_newFunctionEnv_cells S.kind hkind fun env he s1 x => ?_
  subst he
  refine ⟨lim.keeps x.toInCall.keep, codeAny_func ?_⟩
  obtain ⟨t, ht, hq⟩ := hbody cdv A outer s H vs Q E (hr.deeper _) hcd hsp
  have I : Inv (cxOf (L2.CX P w) P w K mg base N qual scope f cdv A outer s H E) [] (L2.start N vs) H s1 := inv_start S hr.hd e0 hl r x
  refine wpAny_mono (ht.run [] s1 (L2.start N vs) H _ I hq) (fun fl s' hs => ?_) fun e s' hs => hs
  cases fl with
  | ret u =>
    obtain ⟨v, σ', H', J, rv, q⟩ := hs
    exact ⟨v, H', J.os, J.bare, J.base, J.hok, rv, q⟩
  | next =>
    obtain ⟨σ', H', J, q⟩ := hs
    exact ⟨V.non, H', J.os, J.bare, J.base, J.hok, rfl, q⟩
  | brk =>
    obtain ⟨_, _, _, q⟩ := hs
    exact False.elim q
  | cont =>
    obtain ⟨_, _, _, q⟩ := hs
    exact False.elim q
/-- a def of the program: its promise by a run, where it stands -/
structure Def (W : Wd) (P : Program) (w : World) (mg : Str → Option Value) (base : Heap) (j : Nat) (x : Str) (k : Nat) (F : Fn) : Prop where
  ok : ∃ (f : Addr) (fd : FuncData) (ps : List Str), FnZ P w W.K mg base j f fd ps (spF W k F) ∧ mg x = some (.ref f) ∧ PySem.W.keepIn W.K (.ref f) = true ∧ Binds W.K fd ps []
theorem Def.mono {W : Wd} {P : Program} {w : World} {mg : Str → Option Value} {base : Heap} {i j : Nat} {x : Str} {k : Nat} {F : Fn} (D : Def W P w mg base i x k F) (h : i ≤ j) : Def W P w mg base j x k F := by
  obtain ⟨f, fd, ps, a, b, c, d⟩ := D.ok
  exact ⟨f, fd, ps, a.mono h, b, c, d⟩
/-- a callee that may be called from X -/
structure Cal (W : Wd) (X : Cx) (x : Str) (k : Nat) (F : Fn) : Prop where
  ok : ∃ (j : Nat) (f : Addr) (fd : FuncData) (ps : List Str), FnZ X.prog X.w X.K X.mg X.base j f fd ps (spF W k F) ∧ RoomG j X.A ∧ X.mg x = some (.ref f) ∧ PySem.W.keepIn X.K (.ref f) = true ∧ Binds X.K fd ps []
theorem Def.cal {W : Wd} {X : Cx} {j : Nat} {x : Str} {k : Nat} {F : Fn} (D : Def W X.prog X.w X.mg X.base j x k F) (hK : X.K = W.K) (hr : RoomG j X.A) : Cal W X x k F := by
  obtain ⟨f, fd, ps, a, b, c, d⟩ := D.ok
  rw [← hK] at a c d
  exact ⟨j, f, fd, ps, a, hr, b, c, d⟩
theorem run_fnZ {X : Cx} {k : Nat} {f : Addr} {fd : FuncData} {ps : List Str} {sp : Sp} {E : St → XK} {pins : List (Addr × Obj)} {σ : St} {H : Hp} {s : Shared} {Q : VK} {us : List Value} {vs : List V} (F : FnZ X.prog X.w X.K X.mg X.base k f fd ps sp) (hr : RoomG k X.A) (hb : Binds X.K fd ps [])
    (hx : PassesAt (L2.CX X.prog X.w) X σ (E σ)) (I : Inv X pins σ H s) (r : Vals vs us) (h : sp vs H Q (E σ)) : wpAny (model X.prog X.w) X.A (call (.ref f) us) (EP X pins σ Q) X.xe s := by
  have hl : us.length = ps.length := by rw [← r.length]; exact F.len _ _ _ _ h
  have b := hb s us I.kIn (by rw [List.append_nil]; exact hl)
  rw [List.append_nil] at b
  refine wpAny_call (codeAny_mono (F.run X.A X.stack s H ⟨us, []⟩ us vs Q (E σ) hr I.env0 b r h) fun r s' hq => ?_)
  cases r with
  | error e => exact hx pins H s e s' I hq
  | ok fl =>
    cases fl with
    | ret u => exact I.after hq
    | next => exact False.elim hq
    | brk => exact False.elim hq
    | cont => exact False.elim hq
def fCall (F : Fn) (fs : En → Sto → R (List D)) : En → Sto → R D := fun env S => (fs env S).bind fun ds S1 => F ds S1
theorem fCall_read {F : Fn} {k : Nat} {fs : List (En → Sto → R D)} (hk : fs.length = k) {σ : St} {H : Hp} {Q : VK} (h : tE W E (fCall F (fArgs fs)) σ H Q) : tCallS (spF W k F) E (tA W E (fArgs fs)) σ H Q := by
  obtain ⟨env, m, S, h1, h2, h3⟩ := h
  refine ⟨env, m, S, h1, h2, ?_⟩
  have h3 : PostG W (RelD W) (E σ) H m S.n ((fArgs fs env S).bind fun ds S1 => F ds S1) Q := h3
  have key : ∀ (fs : List (En → Sto → R D)) (S : Sto) (ds : List D) (S' : Sto), fArgs fs env S = .ok ds S' → ds.length = fs.length := by
    intro fs
    induction fs with
    | nil =>
      intro S ds S' e
      cases e
      rfl
    | cons f fs ih =>
      intro S ds S' e
      have e : ((f env S).bind fun d S1 => (fArgs fs env S1).bind fun ds S2 => R.ok (d :: ds) S2) = .ok ds S' := e
      cases q : f env S with
      | ok d S1 =>
        rw [q] at e
        have e : ((fArgs fs env S1).bind fun ds S2 => R.ok (d :: ds) S2) = .ok ds S' := e
        cases q2 : fArgs fs env S1 with
        | ok ds2 S2 =>
          rw [q2] at e
          cases e
          rw [List.length_cons, List.length_cons, ih _ _ _ q2]
        | exc c x S2 => rw [q2] at e; cases e
        | no => rw [q2] at e; cases e
      | exc c x S2 => rw [q] at e; cases e
      | no => rw [q] at e; cases e
  cases q : fArgs fs env S with
  | ok ds S' =>
    rw [q] at h3
    exact fun H2 m2 vs e2 rs r => ⟨m2, S', ds, by rw [r.len, key _ _ _ _ q, hk], rs, r, PostG.ext e2 h3⟩
  | exc c x S' => rw [q] at h3; exact h3
  | no => rw [q] at h3; exact h3
theorem z_call {x : Str} {p : Pos} {es : List Expr} {k : Nat} {F : Fn} {fs : List (En → Sto → R D)} (C : Cal W X x k F) (hk : fs.length = k) (hg : Gl X x) (hx : ∀ σ, PassesAt (L2.CX X.prog X.w) X σ (E σ)) (ha : PA X (e :: es) (tA W E (fArgs fs)))
    (hdb : (x == ("__debug__" : Str)) = false) (he : starEach (e :: es) X.env = (false, eval e X.env) :: starEach es X.env) (hpl : (backTo pos (starEach es X.env)).any (·.1) = false) : PE X (.Call (.Name x p) (e :: es) [] pos) (tE W E (fCall F (fArgs fs))) := by
  obtain ⟨j, f, fd, ps, F0, hr, hm, hk2, hb⟩ := C.ok
  refine ⟨fun pins s σ H Q I h => ?_⟩
  refine wpAny_Call_Name_kw (ld_glob I hg hm ?_ hdb)
  exact PySem.W.callWith_K (h₀ := X.base) I.ok.mod.kin hk2 (thn (ha.run pos pins s σ H _ I (fCall_read hk h)) fun us s1 ⟨vs, H1, I1, r, q⟩ => ⟨I1.kIn, run_fnZ F0 hr hb (hx σ) I1 r q⟩) he hpl
theorem z_call0 {x : Str} {p : Pos} {F : Fn} (C : Cal W X x 0 F) (hg : Gl X x) (hx : ∀ σ, PassesAt (L2.CX X.prog X.w) X σ (E σ)) (hdb : (x == ("__debug__" : Str)) = false) : PE X (.Call (.Name x p) [] [] pos) (tE W E (fCall F (fArgs []))) := by
  obtain ⟨j, f, fd, ps, F0, hr, hm, hk2, hb⟩ := C.ok
  refine ⟨fun pins s σ H Q I h => ?_⟩
  obtain ⟨env, m, S, h1, h2, h3⟩ := h
  refine wpAny_Call_Name_kw (ld_glob I hg hm ?_ hdb)
  refine PySem.W.callWith_K0 I.kIn hk2 ?_
  exact run_fnZ (us := []) (vs := []) F0 hr hb (hx σ) I .nil ⟨m, S, [], rfl, h2, by unfold RelDs; rfl, h3⟩

/-! ### loops -/
/-- while, so many turns at most -/
def gWhile (t : En → Sto → R Bool) (g : En → Sto → RS) : Nat → En → Sto → RS
  | 0, _, _ => .no
  | n + 1, env, S => (t env S).st env fun k S1 => if k = true then (match g env S1 with
      | .ok (.nx env2) S2 => gWhile t g n env2 S2
      | .ok (.ct env2) S2 => gWhile t g n env2 S2
      | .ok (.bk env2) S2 => .ok (.nx env2) S2
      | r => r) else .ok (.nx env) S1
theorem z_while {c : Expr} {body : List Stmt} {t : En → Sto → R Bool} {g : En → Sto → RS} (hp : PassesOwn (model X.prog X.w) X.A X.env X.xe) (hc : PT X c (tT W E t)) (hb : PSs X body (tS W E g)) (n : Nat) : PS X (.While c body [] pos) (tS W E (gWhile t g n)) := by
  refine ps_imp (ps_while hp hc hb) fun D0 σ H h => ?_
  obtain ⟨env, m, S, h1, h2, h3⟩ := h
  refine ⟨fun j σ H => ∃ env m S, RelEn W H m S.n env σ ∧ RelS W H m S ∧ PostS W E D0 H m S.n (gWhile t g j env S), ⟨n, env, m, S, h1, h2, h3⟩, ?_⟩
  intro j σ H h
  obtain ⟨env, m, S, h1, h2, h3⟩ := h
  cases j with
  | zero => exact h3.elim
  | succ j =>
    refine (tS.run (rl := rB) (g := fun env k S1 => if k = true then (match g env S1 with
      | .ok (.nx env2) S2 => gWhile t g j env2 S2
      | .ok (.ct env2) S2 => gWhile t g j env2 S2
      | .ok (.bk env2) S2 => .ok (.nx env2) S2
      | r => r) else .ok (.nx env) S1) (show tS W E _ D0 σ H from ⟨env, m, S, h1, h2, h3⟩)).mono fun v H1 q => ?_
    obtain ⟨env, m, S, k, g1, g2, g3, g4⟩ := q
    have ek : k = v := g3
    subst ek
    cases k with
    | false => exact (if_neg Bool.false_ne_true : _ = _) ▸ (g4 H1 m σ Ext.refl g2 g1)
    | true =>
      refine (if_pos rfl : _ = _) ▸ ?_
      refine ⟨fun σ H => ∃ env m S, RelEn W H m S.n env σ ∧ RelS W H m S ∧ PostS W E D0 H m S.n (gWhile t g j env S), fun σ' H' q => ⟨j, Nat.lt_succ_self _, q⟩, env, m, S, g1, g2, ?_⟩
      have g4 : PostS W E D0 H1 m S.n (match g env S with
        | .ok (.nx env2) S2 => gWhile t g j env2 S2
        | .ok (.ct env2) S2 => gWhile t g j env2 S2
        | .ok (.bk env2) S2 => .ok (.nx env2) S2
        | r => r) := g4
      cases q : g env S with
      | ok f S1 =>
        rw [q] at g4
        cases f with
        | nx env1 => exact fun H2 m2 σ2 e rs r => ⟨env1, m2, S1, r, rs, PostS.ext e g4⟩
        | ct env1 => exact fun H2 m2 σ2 e rs r => ⟨env1, m2, S1, r, rs, PostS.ext e g4⟩
        | bk env1 => exact g4
        | rt d => exact g4
      | exc c x env1 S1 => rw [q] at g4; exact g4
      | no => rw [q] at g4; exact g4
end
end Z
set_option Elab.async false
set_option linter.all false
set_option autoImplicit false
set_option maxRecDepth 100000
/-! Z5: targets, walks, for, comprehensions, locks. -/
namespace Z
open PySem PySem.Spec PyProof.Rows L2

/-! ### targets -/
inductive Tg where
  | nm (i : Nat)
  | tp (ts : List Tg)
mutual
def Tg.put : Tg → D → En → Option En
  | .nm i, d, env => some (env.set i (some d))
  | .tp ts, .tup ds, env => Tg.puts ts ds env
  | .tp _, _, _ => none
def Tg.puts : List Tg → List D → En → Option En
  | [], [], env => some env
  | t :: ts, d :: ds, env => match Tg.put t d env with
    | some env1 => Tg.puts ts ds env1
    | none => none
  | _, _, _ => none
end
mutual
def Tg.slots : Tg → List Nat
  | .nm i => [i]
  | .tp ts => Tg.slotss ts
def Tg.slotss : List Tg → List Nat
  | [] => []
  | t :: ts => Tg.slots t ++ Tg.slotss ts
end
/-- alike but at some slots -/
def Agr (σ σ' : St) (vs : List Nat) : Prop := σ'.length = σ.length ∧ ∀ (j : Nat), j ∉ vs → σ'[j]? = σ[j]?
theorem Agr.refl {σ : St} {vs : List Nat} : Agr σ σ vs := ⟨rfl, fun _ _ => rfl⟩
theorem Agr.trans {σ σ' σ2 : St} {vs : List Nat} (a : Agr σ σ' vs) (b : Agr σ' σ2 vs) : Agr σ σ2 vs := ⟨b.1.trans a.1, fun j h => (b.2 j h).trans (a.2 j h)⟩
theorem Agr.mono {σ σ' : St} {vs ws : List Nat} (a : Agr σ σ' vs) (h : ∀ i ∈ vs, i ∈ ws) : Agr σ σ' ws := ⟨a.1, fun j hj => a.2 j fun z => hj (h j z)⟩
def tTg (W : Wd) (t : Tg) : TG := fun v σ H Q => ∃ env m S d env', RelEn W H m S.n env σ ∧ RelS W H m S ∧ RelD W H m S.n d v ∧ t.put d env = some env' ∧ ∀ σ', RelEn W H m S.n env' σ' → Agr σ σ' t.slots → Q σ' H
def tTgs (W : Wd) (ts : List Tg) : TGs := fun vs σ H Q => ∃ env m S ds env', RelEn W H m S.n env σ ∧ RelS W H m S ∧ RelDs W H m S.n ds vs ∧ Tg.puts ts ds env = some env' ∧ ∀ σ', RelEn W H m S.n env' σ' → Agr σ σ' (Tg.slotss ts) → Q σ' H
section
variable {X : Cx} {W : Wd} {pos : Pos} {e : Expr} {es : List Expr}
theorem pg_imp {e : Expr} {t t' : TG} (h : PG X e t) (i : ∀ v σ H Q, t' v σ H Q → t v σ H Q) : PG X e t' := ⟨fun pins s σ H v u Q I r q => h.run pins s σ H v u Q I r (i v σ H Q q)⟩
theorem pgs_imp {es : List Expr} {t t' : TGs} (h : PGs X es t) (i : ∀ v σ H Q, t' v σ H Q → t v σ H Q) : PGs X es t' := ⟨fun pins s σ H v u Q I r q => h.run pins s σ H v u Q I r (i v σ H Q q)⟩
theorem z_nm {i : Nat} {x : Str} (hN : X.N.Nodup) (hi : X.N[i]? = some x) (hx : Loc X.env.scope x) (hf : X.fn x = true ∨ X.env.scope.names.lookup x = some .local) : PG X (.Name x pos) (tTg W (.nm i)) := by
  refine pg_imp (pg_name hN hi hx hf) fun v σ H Q h => ?_
  obtain ⟨env, m, S, d, env', h1, h2, h3, h4, h5⟩ := h
  have h4 : some (env.set i (some d)) = some env' := h4
  cases h4
  refine h5 _ (h1.set h3) ⟨List.length_set, fun j hj => List.getElem?_set_ne fun z => hj ?_⟩
  show j ∈ [i]
  rw [z]
  exact List.mem_singleton.mpr rfl
theorem z_tgnil : PGs X [] (tTgs W []) := by
  refine pgs_imp pgs_nil fun v σ H Q h => ?_
  obtain ⟨env, m, S, ds, env', h1, h2, h3, h4, h5⟩ := h
  cases ds with
  | nil =>
    have h4 : some env = some env' := h4
    cases h4
    unfold RelDs at h3
    exact ⟨h3, h5 σ h1 Agr.refl⟩
  | cons d ds =>
    have h4 : (none : Option En) = some env' := h4
    cases h4
theorem z_tgcons {t : Tg} {ts : List Tg} (h1 : PG X e (tTg W t)) (h2 : PGs X es (tTgs W ts)) (hs : (assignEach (e :: es) X.env).map (·.2) = assign e X.env :: (assignEach es X.env).map (·.2)) : PGs X (e :: es) (tTgs W (t :: ts)) := by
  refine pgs_imp (pgs_cons h1 h2 hs) fun v σ H Q h => ?_
  obtain ⟨env, m, S, ds, env', k1, k2, k3, k4, k5⟩ := h
  cases ds with
  | nil =>
    have k4 : (none : Option En) = some env' := k4
    cases k4
  | cons d ds =>
    unfold RelDs at k3
    obtain ⟨u, us, e1, r, rs⟩ := k3
    have k4 : (match Tg.put t d env with
      | some env1 => Tg.puts ts ds env1
      | none => none) = some env' := k4
    cases q : Tg.put t d env with
    | none => rw [q] at k4; cases k4
    | some env1 =>
      rw [q] at k4
      refine ⟨u, us, e1, env, m, S, d, env1, k1, k2, r, q, fun σ1 r1 a1 => ⟨env1, m, S, ds, env', r1, k2, rs, k4, fun σ2 r2 a2 => k5 σ2 r2 ?_⟩⟩
      exact Agr.trans (a1.mono fun i hi => List.mem_append_left _ hi) (a2.mono fun i hi => List.mem_append_right _ hi)
theorem Tg.puts_len : ∀ {ts : List Tg} {ds : List D} {env env' : En}, Tg.puts ts ds env = some env' → ds.length = ts.length
  | [], [], _, _, _ => rfl
  | [], _ :: _, _, _, h => by cases h
  | _ :: _, [], _, _, h => by cases h
  | t :: ts, d :: ds, env, env', h => by
    have h : (match Tg.put t d env with
      | some env1 => Tg.puts ts ds env1
      | none => none) = some env' := h
    cases q : Tg.put t d env with
    | none => rw [q] at h; cases h
    | some env1 =>
      rw [q] at h
      rw [List.length_cons, List.length_cons, Tg.puts_len h]
theorem z_tgtup {k : Nat} {ts : List Tg} (hc : X.calm = true) (hK : X.K = W.K) (h : PGs X es (tTgs W ts)) (hn : (assignEach es X.env).length = ts.length) (hst : (assignEach es X.env).findIdx? (·.1) = none) : PG X (.Tuple es k pos) (tTg W (.tp ts)) := by
  refine pg_imp (pg_tup (n := ts.length) hc h hn hst) fun v σ H Q h => ?_
  obtain ⟨env, m, S, d, env', h1, h2, h3, h4, h5⟩ := h
  cases d with
  | tup ds =>
    unfold RelD at h3
    obtain ⟨a, vs, e1, t, r⟩ := h3
    have h4 : Tg.puts ts ds env = some env' := h4
    exact ⟨a, vs, e1, by rw [hK]; exact t.sq, by rw [r.len, Tg.puts_len h4], env, m, S, ds, env', h1, h2, r, h4, h5⟩
  | _ => cases h4
/-- a, b = e -/
def gAsg {D0 : Type} (t : Tg) (f : En → Sto → R D) : En → Sto → RS := fun env S => (f env S).st env fun d S1 => match t.put d env with
  | some env1 => .ok (.nx env1) S1
  | none => .no
theorem z_asg {E : St → XK} {tg : Expr} {t : Tg} {fa : En → Sto → R D} (he : PE X e (tE W E fa)) (hg : PG X tg (tTg W t)) (hs : swapsWithSole [tg] e pos.line X.env = pure false) (hw : swappedStores [tg] e X.env = pure none) (h1 : (assignEach [tg] X.env).map (·.2) = [assign tg X.env]) :
    PS X (.Assign [tg] e pos) (tS W E (gAsg (D0 := Unit) t fa)) := by
  refine ps_imp (ps_asg he hg hs hw h1) fun D0 σ H h => ?_
  refine (tS.run (rl := RelD W) (g := fun env d S1 => match t.put d env with | some env1 => .ok (.nx env1) S1 | none => .no) h).mono fun v H1 q => ?_
  obtain ⟨env, m, S, d, g1, g2, g3, g4⟩ := q
  cases q : t.put d env with
  | none => rw [q] at g4; exact g4.elim
  | some env1 =>
    rw [q] at g4
    exact ⟨env, m, S, d, env1, g1, g2, g3, q, fun σ' r _ => g4 H1 m σ' Ext.refl g2 r⟩
/-- a, b = x, y with two local names -/
def gPar (i j : Nat) (fs : En → Sto → R (List D)) : En → Sto → RS := fun env S => (fs env S).st env fun ds S1 => match ds with
  | [d, e] => .ok (.nx ((env.set i (some d)).set j (some e))) S1
  | _ => .no
theorem z_par {E : St → XK} {i j : Nat} {x y : Str} {a b : Expr} {px py pt : Pos} {kt k2 : Nat} {pt2 : Pos} {fs : En → Sto → R (List D)} (hc : X.calm = true) (hN : X.N.Nodup) (hi : X.N[i]? = some x) (hj : X.N[j]? = some y) (hij : i ≠ j)
    (hx : X.env.scope.names.lookup x = some .local) (hy : X.env.scope.names.lookup y = some .local) (ha : PA X [a, b] (tA W E fs)) (hw : swappedStores [.Tuple [.Name x px, .Name y py] kt pt] (.Tuple [a, b] k2 pt2) X.env = pure (some [x, y]))
    (hs : swapsWithSole [.Tuple [.Name x px, .Name y py] kt pt] (.Tuple [a, b] k2 pt2) pos.line X.env = pure false) : PS X (.Assign [.Tuple [.Name x px, .Name y py] kt pt] (.Tuple [a, b] k2 pt2) pos) (tS W E (gPar i j fs)) := by
  refine ps_imp (ps_par hc hN hi hj hij hx hy ha hw hs) fun D0 σ H h => ?_
  refine (tS.run (rl := RelDs W) (g := fun env ds S1 => match ds with | [d, e] => .ok (.nx ((env.set i (some d)).set j (some e))) S1 | _ => .no) h).mono fun v H1 q => ?_
  obtain ⟨env, m, S, ds, g1, g2, g3, g4⟩ := q
  match ds, g3, g4 with
  | [d, e], g3, g4 =>
    unfold RelDs at g3
    obtain ⟨u, us, e1, r1, g3⟩ := g3
    unfold RelDs at g3
    obtain ⟨u2, us2, e2, r2, g3⟩ := g3
    unfold RelDs at g3
    subst g3 e2 e1
    exact ⟨u, u2, rfl, g4 H1 m _ Ext.refl g2 ((g1.set r1).set r2)⟩
  | [], _, g4 => exact g4.elim
  | [_], _, g4 => exact g4.elim
  | _ :: _ :: _ :: _, _, g4 => exact g4.elim
end

/-! ### walks -/
/-- the item of a turn; none: the end -/
abbrev Nx := Nat → Sto → Option (Option D)
def rlI (W : Wd) : Rl Nx It := fun H0 m0 n0 nx J => ∀ i H m S, Ext W H0 m0 n0 H m S.n → RelS W H m S → match nx i S with
  | some (some d) => J.go i H ∧ ∀ x H', J.yld i H x H' → Ext W H m S.n H' m S.n ∧ RelS W H' m S ∧ RelD W H' m S.n d x
  | some none => J.stop i H
  | none => True
theorem rlI.ext {W : Wd} {H H' : Hp} {m m' : Nat → Addr} {n n' : Nat} {nx : Nx} {J : It} (e : Ext W H m n H' m' n') (h : rlI W H m n nx J) : rlI W H' m' n' nx J := fun i H2 m2 S2 e2 rs => h i H2 m2 S2 (e.trans e2) rs
abbrev tI (W : Wd) (E : St → XK) (f : En → Sto → R Nx) : TI := tG W (rlI W) E f
/-- for -/
def gForL (nx : Nx) (t : Tg) (g : En → Sto → RS) : Nat → Nat → En → Sto → RS
  | 0, _, _, _ => .no
  | f + 1, i, env, S => match nx i S with
    | none => .no
    | some none => .ok (.nx env) S
    | some (some d) => match t.put d env with
      | none => .no
      | some env1 => match g env1 S with
        | .ok (.nx env2) S2 => gForL nx t g f (i + 1) env2 S2
        | .ok (.ct env2) S2 => gForL nx t g f (i + 1) env2 S2
        | .ok (.bk env2) S2 => .ok (.nx env2) S2
        | r => r
def gFor (fi : En → Sto → R Nx) (t : Tg) (g : En → Sto → RS) (fuel : Nat) : En → Sto → RS := fun env S => (fi env S).st env fun nx S1 => gForL nx t g fuel 0 env S1
section
variable {X : Cx} {W : Wd} {E : St → XK} {pos : Pos}
theorem z_for {tg iter : Expr} {body : List Stmt} {fi : En → Sto → R Nx} {t : Tg} {g : En → Sto → RS} {fuel : Nat} (hp : PassesOwn (model X.prog X.w) X.A X.env X.xe) (hc : X.calm = true) (hi : PI X tg iter (tI W E fi)) (hg : PG X tg (tTg W t)) (hb : PSs X body (tS W E g))
    (hs : ∀ x, foldedSetIterable iter X.env x = pure x) : PS X (.For tg iter body [] pos) (tS W E (gFor fi t g fuel)) := by
  refine ps_imp (ps_for hp hc hi hg hb hs) fun D0 σ H h => ?_
  refine (tS.run (rl := rlI W) (g := fun env nx S1 => gForL nx t g fuel 0 env S1) h).mono fun J H1 q => ?_
  obtain ⟨env0, m0, S0, nx, h1, h2, h3, h4⟩ := q
  refine ⟨fun i f σ H => ∃ env m S, Ext W H1 m0 S0.n H m S.n ∧ RelEn W H m S.n env σ ∧ RelS W H m S ∧ PostS W E D0 H m S.n (gForL nx t g f i env S), ⟨fuel, env0, m0, S0, Ext.refl, h1, h2, h4⟩, ?_⟩
  intro i f σ H h
  obtain ⟨env, m, S, e, r, rs, p⟩ := h
  cases f with
  | zero => exact p.elim
  | succ f =>
    have w := h3 i H m S e rs
    have p : PostS W E D0 H m S.n (match nx i S with
      | none => .no
      | some none => .ok (.nx env) S
      | some (some d) => match t.put d env with
        | none => .no
        | some env1 => match g env1 S with
          | .ok (.nx env2) S2 => gForL nx t g f (i + 1) env2 S2
          | .ok (.ct env2) S2 => gForL nx t g f (i + 1) env2 S2
          | .ok (.bk env2) S2 => .ok (.nx env2) S2
          | r => r) := p
    cases q : nx i S with
    | none => rw [q] at p; exact p.elim
    | some o =>
      rw [q] at p w
      cases o with
      | none => exact .inl ⟨w, p H m σ Ext.refl rs r⟩
      | some d =>
        refine .inr ⟨w.1, fun σ H => ∃ env m S, Ext W H1 m0 S0.n H m S.n ∧ RelEn W H m S.n env σ ∧ RelS W H m S ∧ PostS W E D0 H m S.n (gForL nx t g f (i + 1) env S), fun σ' H' z => ⟨f, Nat.lt_succ_self _, z⟩, fun x H' y => ?_⟩
        obtain ⟨ey, ry, rd⟩ := w.2 x H' y
        have p : PostS W E D0 H m S.n (match t.put d env with
          | none => .no
          | some env1 => match g env1 S with
            | .ok (.nx env2) S2 => gForL nx t g f (i + 1) env2 S2
            | .ok (.ct env2) S2 => gForL nx t g f (i + 1) env2 S2
            | .ok (.bk env2) S2 => .ok (.nx env2) S2
            | r => r) := p
        cases q2 : t.put d env with
        | none => rw [q2] at p; exact p.elim
        | some env1 =>
          rw [q2] at p
          refine ⟨env, m, S, d, env1, r.ext ey, ry, rd, q2, fun σ2 r2 _ => ⟨env1, m, S, r2, ry, ?_⟩⟩
          have p : PostS W E D0 H m S.n (match g env1 S with
            | .ok (.nx env2) S2 => gForL nx t g f (i + 1) env2 S2
            | .ok (.ct env2) S2 => gForL nx t g f (i + 1) env2 S2
            | .ok (.bk env2) S2 => .ok (.nx env2) S2
            | r => r) := p
          replace p := PostS.ext ey p
          have e2 := e.trans ey
          cases q3 : g env1 S with
          | ok fl S2 =>
            rw [q3] at p
            cases fl with
            | nx env2 => exact fun H3 m3 σ3 e3 rs3 r3 => ⟨env2, m3, S2, e2.trans e3, r3, rs3, PostS.ext e3 p⟩
            | ct env2 => exact fun H3 m3 σ3 e3 rs3 r3 => ⟨env2, m3, S2, e2.trans e3, r3, rs3, PostS.ext e3 p⟩
            | bk env2 => exact p
            | rt d2 => exact p
          | exc c x env2 S2 => rw [q3] at p; exact p
          | no => rw [q3] at p; exact p
end
end Z
set_option Elab.async false
set_option linter.all false
set_option autoImplicit false
set_option maxRecDepth 100000
/-! Z6: comprehensions, locks. -/
namespace Z
open PySem PySem.Spec PyProof.Rows L2

/-- no exception is let out -/
def R.quiet {α : Type} : R α → R α
  | .exc _ _ _ => .no
  | r => r
abbrev noE : St → XK := fun _ _ _ _ => False
theorem PostG.quiet {α β : Type} {W : Wd} {rl : Rl α β} {E : XK} {H : Hp} {m : Nat → Addr} {n : Nat} {r : R α} {Q : β → Hp → Prop} (h : PostG W rl E H m n r.quiet Q) : PostG W rl (fun _ _ _ => False) H m n r Q := by
  cases r with
  | ok a S => exact h
  | exc c x S => exact h.elim
  | no => exact h
/-- the slots forgotten -/
def wipeE : En → List Nat → En
  | env, [] => env
  | env, v :: vs => (wipeE env vs).set v none
theorem relEn_wipe {W : Wd} {H : Hp} {m : Nat → Addr} {n : Nat} {env : En} {σ : St} (h : RelEn W H m n env σ) : ∀ vs, RelEn W H m n (wipeE env vs) (wipe σ vs)
  | [] => h
  | v :: vs => (relEn_wipe h vs).unset
theorem wipe_in {σ : St} {i : Nat} : ∀ {vs : List Nat}, i ∈ vs → i < σ.length → (wipe σ vs)[i]? = some none
  | v :: vs, h, hl => by
    show ((wipe σ vs).set v none)[i]? = some none
    by_cases e : v = i
    · rw [e, List.getElem?_set_self (by rw [wipe_length]; exact hl)]
    · rw [List.getElem?_set_ne e]
      rcases List.mem_cons.mp h with z | z
      · exact absurd z.symm e
      · exact wipe_in z hl
theorem wipe_agr {σ σ' : St} {vs : List Nat} (a : Agr σ σ' vs) : wipe σ' vs = wipe σ vs := by
  refine List.ext_getElem? fun i => ?_
  by_cases h : i ∈ vs
  · by_cases hl : i < σ.length
    · rw [wipe_in h hl, wipe_in h (by rw [a.1]; exact hl)]
    · rw [List.getElem?_eq_none (by rw [wipe_length, a.1]; omega), List.getElem?_eq_none (by rw [wipe_length]; omega)]
  · rw [wipe_out h, wipe_out h, a.2 i h]
theorem wipe_wipe {σ : St} {vs : List Nat} : wipe (wipe σ vs) vs = wipe σ vs := wipe_agr (σ := σ) ⟨wipe_length _ _, fun j h => wipe_out h⟩

def fCompL (nx : Nx) (t : Tg) (ft : En → Sto → R Bool) (fe : En → Sto → R D) (env0 : En) (k : Nat) : Nat → Nat → Sto → R D
  | 0, _, _ => .no
  | f + 1, i, S => match nx i S with
    | none => .no
    | some none => .ok (.loc k) S
    | some (some d) => match t.put d env0 with
      | none => .no
      | some env1 => (ft env1 S).quiet.bind fun b S2 => if b = true then (fe env1 S2).quiet.bind fun y S3 => (match S3.get k with
          | some (.lst acc) => if acc.length < 1000000 then fCompL nx t ft fe env0 k f (i + 1) (S3.set k (.lst (acc ++ [y]))) else .no
          | _ => .no)
        else fCompL nx t ft fe env0 k f (i + 1) S2
/-- [elt for target in iter if ..] -/
def fComp (vs : List Nat) (fi : En → Sto → R Nx) (t : Tg) (ft : En → Sto → R Bool) (fe : En → Sto → R D) (fuel : Nat) : En → Sto → R D := fun env S => (fi env S).bind fun nx S1 => fCompL nx t ft fe (wipeE env vs) S1.n fuel 0 (S1.push (.lst []))
theorem relDs_snoc {W : Wd} {H : Hp} {m : Nat → Addr} {n : Nat} : ∀ {ds : List D} {vs : List V} {d : D} {v : V}, RelDs W H m n ds vs → RelD W H m n d v → RelDs W H m n (ds ++ [d]) (vs ++ [v])
  | [], vs, d, v, h, r => by
    unfold RelDs at h
    subst h
    show RelDs W H m n [d] [v]
    unfold RelDs
    exact ⟨v, [], rfl, r, by unfold RelDs; rfl⟩
  | d0 :: ds, vs, d, v, h, r => by
    unfold RelDs at h
    obtain ⟨u, us, e, r0, rs⟩ := h
    subst e
    show RelDs W H m n (d0 :: (ds ++ [d])) (u :: (us ++ [v]))
    unfold RelDs
    exact ⟨u, us ++ [v], rfl, r0, relDs_snoc rs r⟩
theorem tLc_read {W : Wd} {E : St → XK} {vs : List Nat} {fi : En → Sto → R Nx} {t : Tg} {ft : En → Sto → R Bool} {fe : En → Sto → R D} {fuel : Nat} (hv : ∀ i ∈ t.slots, i ∈ vs) {σ : St} {H : Hp} {Q : VK} (h : tE W E (fComp vs fi t ft fe fuel) σ H Q) :
    tLc (tI W E fi) (tTg W t) (tT W noE ft) (tE W noE fe) vs σ H Q := by
  refine (tG.seq (rl := rlI W) (g := fun env nx S1 => fCompL nx t ft fe (wipeE env vs) S1.n fuel 0 (S1.push (.lst []))) h).mono fun J H1 q => ?_
  obtain ⟨env, m0, S0, nx, h1, h2, h3, h4⟩ := q
  intro D0 hD
  have eP : Ext W H1 m0 S0.n (upd H1 D0 (.lst [])) (mPush m0 S0.n D0) (S0.n + 1) := ext_push hD
  have r0 : RelEn W H1 m0 S0.n (wipeE env vs) (wipe σ vs) := relEn_wipe h1 vs
  refine ⟨fun i f H => ∃ m S, Ext W (upd H1 D0 (.lst [])) (mPush m0 S0.n D0) (S0.n + 1) H m S.n ∧ RelS W H m S ∧ PostG W (RelD W) (E σ) H m S.n (fCompL nx t ft fe (wipeE env vs) S0.n f i S) Q,
    ⟨fuel, mPush m0 S0.n D0, S0.push (.lst []), Ext.refl, h2.push hD ⟨[], rfl, by unfold RelDs; rfl⟩, h4.ext eP⟩, ?_⟩
  intro i f H h
  obtain ⟨m, S, e, rs, p⟩ := h
  have e1 : Ext W H1 m0 S0.n H m S.n := eP.trans e
  have hk : S0.n < S.n := Nat.lt_of_lt_of_le (Nat.lt_succ_self _) e.le
  have mk : m S0.n = D0 := (e.same _ (Nat.lt_succ_self _)).trans mPush_eq
  cases f with
  | zero => exact p.elim
  | succ f =>
    have w := h3 i H m S e1 rs
    have p : PostG W (RelD W) (E σ) H m S.n (match nx i S with
      | none => .no
      | some none => .ok (.loc S0.n) S
      | some (some d) => match t.put d (wipeE env vs) with
        | none => .no
        | some env1 => (ft env1 S).quiet.bind fun b S2 => if b = true then (fe env1 S2).quiet.bind fun y S3 => (match S3.get S0.n with
            | some (.lst acc) => if acc.length < 1000000 then fCompL nx t ft fe (wipeE env vs) S0.n f (i + 1) (S3.set S0.n (.lst (acc ++ [y]))) else .no
            | _ => .no)
          else fCompL nx t ft fe (wipeE env vs) S0.n f (i + 1) S2) Q := p
    cases q : nx i S with
    | none => rw [q] at p; exact p.elim
    | some o =>
      rw [q] at p w
      cases o with
      | none =>
        refine .inl ⟨w, p H m _ Ext.refl rs ?_⟩
        unfold RelD
        exact ⟨hk, by rw [mk]⟩
      | some d =>
        refine .inr ⟨w.1, fun H => ∃ m S, Ext W (upd H1 D0 (.lst [])) (mPush m0 S0.n D0) (S0.n + 1) H m S.n ∧ RelS W H m S ∧ PostG W (RelD W) (E σ) H m S.n (fCompL nx t ft fe (wipeE env vs) S0.n f (i + 1) S) Q,
          fun H' z => ⟨f, Nat.lt_succ_self _, z⟩, fun x H' y => ?_⟩
        obtain ⟨ey, ry, rd⟩ := w.2 x H' y
        have p : PostG W (RelD W) (E σ) H m S.n (match t.put d (wipeE env vs) with
          | none => .no
          | some env1 => (ft env1 S).quiet.bind fun b S2 => if b = true then (fe env1 S2).quiet.bind fun y S3 => (match S3.get S0.n with
              | some (.lst acc) => if acc.length < 1000000 then fCompL nx t ft fe (wipeE env vs) S0.n f (i + 1) (S3.set S0.n (.lst (acc ++ [y]))) else .no
              | _ => .no)
            else fCompL nx t ft fe (wipeE env vs) S0.n f (i + 1) S2) Q := p
        cases q2 : t.put d (wipeE env vs) with
        | none => rw [q2] at p; exact p.elim
        | some env1 =>
          rw [q2] at p
          replace p : PostG W (RelD W) (E σ) H' m S.n _ Q := PostG.ext ey p
          refine ⟨wipeE env vs, m, S, d, env1, (r0.ext e1).ext ey, ry, rd, q2, fun σ2 r2 a2 => ⟨?_, ?_⟩⟩
          · rw [wipe_agr (a2.mono hv), wipe_wipe]
          · refine ⟨env1, m, S, r2, ry, ((p.bind (rl := rB)).quiet).mono fun b H2 z => ?_⟩
            obtain ⟨m2, S2, b', e2, rs2, eb, p2⟩ := z
            have eb : b' = b := eb
            subst eb
            have ee := (e.trans ey).trans e2
            cases b' with
            | false =>
              refine (if_neg Bool.false_ne_true : _ = _) ▸ ?_
              exact ⟨m2, S2, ee, rs2, p2⟩
            | true =>
              refine (if_pos rfl : _ = _) ▸ ?_
              have p2 : PostG W (RelD W) (E σ) H2 m2 S2.n ((fe env1 S2).quiet.bind fun y S3 => (match S3.get S0.n with
                | some (.lst acc) => if acc.length < 1000000 then fCompL nx t ft fe (wipeE env vs) S0.n f (i + 1) (S3.set S0.n (.lst (acc ++ [y]))) else .no
                | _ => .no)) Q := p2
              refine ⟨env1, m2, S2, r2.ext e2, rs2, ((p2.bind (rl := RelD W)).quiet).mono fun yv H3 z => ?_⟩
              obtain ⟨m3, S3, y3, e3, rs3, ry3, p3⟩ := z
              have e4 := ee.trans e3
              have hk3 : S0.n < S3.n := Nat.lt_of_lt_of_le (Nat.lt_succ_self _) e4.le
              have mk3 : m3 S0.n = D0 := (e4.same _ (Nat.lt_succ_self _)).trans mPush_eq
              obtain ⟨o, ho, g, hm, ob⟩ := rs3.at_ S0.n hk3
              have p3 : PostG W (RelD W) (E σ) H3 m3 S3.n (match S3.get S0.n with
                | some (.lst acc) => if acc.length < 1000000 then fCompL nx t ft fe (wipeE env vs) S0.n f (i + 1) (S3.set S0.n (.lst (acc ++ [y3]))) else .no
                | _ => .no) Q := p3
              rw [g] at p3
              cases o with
              | lst acc =>
                obtain ⟨ws, e5, rw5⟩ := ob
                subst e5
                have p3 : PostG W (RelD W) (E σ) H3 m3 S3.n (if acc.length < 1000000 then fCompL nx t ft fe (wipeE env vs) S0.n f (i + 1) (S3.set S0.n (.lst (acc ++ [y3]))) else .no) Q := p3
                by_cases hl : acc.length < 1000000
                · rw [if_pos hl] at p3
                  rw [mk3] at hm
                  refine ⟨ws, hm, Nat.lt_of_lt_of_le (by rw [rw5.len]; exact hl) line1000000, ?_⟩
                  have hm' : H3 (m3 S0.n) = some (.lst ws) := by rw [mk3]; exact hm
                  have wr : Wr (.lst ws) := trivial
                  have ex := ext_set (o := .lst (ws ++ [yv])) rs3 hk3 hm' wr.nf
                  have rx := rs3.set (b := .lst (acc ++ [y3])) (o := .lst (ws ++ [yv])) g hm' wr.nt wr.ns ⟨_, rfl, relDs_snoc rw5 ry3⟩
                  rw [mk3] at ex rx
                  exact ⟨m3, S3.set S0.n (.lst (acc ++ [y3])), e4.trans ex, rx, PostG.ext ex p3⟩
                · rw [if_neg hl] at p3
                  exact p3.elim
              | _ => exact p3.elim
section
variable {X : Cx} {W : Wd} {E : St → XK} {pos : Pos}
theorem z_comp {elt tg iter : Expr} {ifs : List Expr} {scope : Scope} {own : List (Str × Nat)} {fi : En → Sto → R Nx} {t : Tg} {ft : En → Sto → R Bool} {fe : En → Sto → R D} {fuel : Nat} (hc : X.calm = true) (hN : X.N.Nodup) (hi : PI X tg iter (tI W E fi)) (ok : BlkOk X.N X.env.scope scope own) (hv : ∀ i ∈ t.slots, i ∈ own.map (·.2))
    (hg : ∀ (s : Shared) (H : Hp) (C : Addr) (cl : List (Str × Addr)) (fp : List Addr), PG (X.blk s H scope (compEnvC scope cl C X.env) fp) tg (tTg W t)) (ht : ∀ (s : Shared) (H : Hp) (C : Addr) (cl : List (Str × Addr)) (fp : List Addr), PTs (X.blk s H scope (compEnvC scope cl C X.env) fp) ifs (tT W noE ft))
    (he : ∀ (s : Shared) (H : Hp) (C : Addr) (cl : List (Str × Addr)) (fp : List Addr), PE (X.blk s H scope (compEnvC scope cl C X.env) fp) elt (tE W noE fe)) (hs : ∀ x, foldedSetIterable iter X.env x = pure x) :
    PE X (.ListComp elt [⟨tg, iter, ifs, 0⟩] scope pos) (tE W E (fComp (own.map (·.2)) fi t ft fe fuel)) := pe_imp (pe_lc hc hN hi ok hg ht he hs) fun _ _ _ h => tLc_read hv h
/-- name = [..] -/
theorem z_setComp {i : Nat} {y : Str} {py spos : Pos} {elt tg iter : Expr} {ifs : List Expr} {scope : Scope} {own : List (Str × Nat)} {fi : En → Sto → R Nx} {t : Tg} {ft : En → Sto → R Bool} {fe : En → Sto → R D} {fuel : Nat} (hc : X.calm = true) (hN : X.N.Nodup) (hy : X.N[i]? = some y) (hyl : X.env.scope.names.lookup y = some .local)
    (hsw : swapsWith (.ListComp elt [⟨tg, iter, ifs, 0⟩] scope pos) (some (.Name y py)) spos.line X.env = pure true) (hi : PI X tg iter (tI W E fi)) (ok : BlkOk X.N X.env.scope scope own) (hv : ∀ i ∈ t.slots, i ∈ own.map (·.2))
    (hg : ∀ (s : Shared) (H : Hp) (C : Addr) (cl : List (Str × Addr)) (fp : List Addr), PG (X.blk s H scope (compEnvC scope cl C X.env) fp) tg (tTg W t)) (ht : ∀ (s : Shared) (H : Hp) (C : Addr) (cl : List (Str × Addr)) (fp : List Addr), PTs (X.blk s H scope (compEnvC scope cl C X.env) fp) ifs (tT W noE ft))
    (he : ∀ (s : Shared) (H : Hp) (C : Addr) (cl : List (Str × Addr)) (fp : List Addr), PE (X.blk s H scope (compEnvC scope cl C X.env) fp) elt (tE W noE fe)) (hs : ∀ x, foldedSetIterable iter X.env x = pure x) :
    PS X (.Assign [.Name y py] (.ListComp elt [⟨tg, iter, ifs, 0⟩] scope pos) spos) (tS W E (gSet i (fComp (own.map (·.2)) fi t ft fe fuel))) := by
  refine ps_imp (ps_setLc hc hN hy hyl hsw hi ok hg ht he hs) fun D0 σ H h => ?_
  have q : tE W E (fComp (own.map (·.2)) fi t ft fe fuel) σ H fun x H1 => D0.nx (σ.set i (some x)) H1 := by
    refine (tS.run (rl := RelD W) (g := fun env d S1 => .ok (.nx (env.set i (some d))) S1) h).mono fun v H1 q => ?_
    obtain ⟨env, m, S, d, g1, g2, g3, g4⟩ := q
    exact g4 H1 m _ Ext.refl g2 (g1.set g3)
  exact tLc_read hv q
/-- a clause's tests -/
def fYes : En → Sto → R Bool := fun _ S => .ok true S
theorem z_yes : PTs X [] (tT W E fYes) := ⟨fun pins s σ H Q I h => by
  obtain ⟨env, m, S, h1, h2, h3⟩ := h
  exact pts_nil.run pins s σ H Q I (h3 H m true Ext.refl h2 rfl)⟩
theorem z_oneT {c : Expr} {ft : En → Sto → R Bool} (h : PT X c (tT W E ft)) : PTs X [c] (tT W E ft) := pts_one h
end
end Z
set_option Elab.async false
set_option linter.all false
set_option autoImplicit false
set_option maxRecDepth 100000
/-! Z7: operators by values. -/
namespace Z
open PySem PySem.Spec PyProof.Rows L2

section
variable {X : Cx} {W : Wd} {H : Hp} {m : Nat → Addr} {n : Nat}
theorem relD_int {i : Int} {v : V} (h : RelD W H m n (.int i) v) : v = .int i := by unfold RelD at h; exact h
theorem relD_str {i : Str} {v : V} (h : RelD W H m n (.str i) v) : v = .str i := by unfold RelD at h; exact h
theorem relD_bl {i : Bool} {v : V} (h : RelD W H m n (.bl i) v) : v = .bl i := by unfold RelD at h; exact h
theorem relD_non {v : V} (h : RelD W H m n .non v) : v = .non := by unfold RelD at h; exact h
theorem of_int {i : Int} : RelD W H m n (.int i) (.int i) := by unfold RelD; rfl
theorem of_str {i : Str} : RelD W H m n (.str i) (.str i) := by unfold RelD; rfl
theorem of_bl {i : Bool} : RelD W H m n (.bl i) (.bl i) := by unfold RelD; rfl
theorem of_non : RelD W H m n .non .non := by unfold RelD; rfl
theorem relD_tupE {ds : List D} {v : V} (h : RelD W H m n (.tup ds) v) : ∃ a vs, v = .ref a ∧ TupAt W.K H m n a vs ∧ RelDs W H m n ds vs := by unfold RelD at h; exact h
theorem of_tup {ds : List D} {a : Addr} {vs : List V} (t : TupAt W.K H m n a vs) (r : RelDs W H m n ds vs) : RelD W H m n (.tup ds) (.ref a) := by unfold RelD; exact ⟨a, vs, rfl, t, r⟩
theorem relD_ktpE {ds : List D} {v : V} (h : RelD W H m n (.ktp ds) v) : ∃ a vs, v = .ref a ∧ KTup W.K a vs ∧ RelDs W H m n ds vs := by unfold RelD at h; exact h
theorem relD_sqE {ds : List D} {v : V} (h : RelD W H m n (.sq ds) v) : ∃ a vs, v = .ref a ∧ FixL W.K H m n a vs ∧ RelDs W H m n ds vs := by unfold RelD at h; exact h
theorem relD_locE {k : Nat} {v : V} (h : RelD W H m n (.loc k) v) : k < n ∧ v = .ref (m k) := by unfold RelD at h; exact h
theorem of_loc {k : Nat} (h : k < n) : RelD W H m n (.loc k) (.ref (m k)) := by unfold RelD; exact ⟨h, rfl⟩
/-- a list of the store -/
theorem RelS.lst {S : Sto} (rs : RelS W H m S) {k : Nat} {ds : List D} (h : S.get k = some (.lst ds)) : ∃ vs, H (m k) = some (.lst vs) ∧ RelDs W H m S.n ds vs := by
  obtain ⟨o, ho, g, hm, q⟩ := rs.at_ k (Sto.get_lt h)
  rw [h] at g
  cases g
  obtain ⟨vs, e, r⟩ := q
  subst e
  exact ⟨vs, hm, r⟩
theorem relDs_app : ∀ {ds es : List D} {vs us : List V}, RelDs W H m n ds vs → RelDs W H m n es us → RelDs W H m n (ds ++ es) (vs ++ us)
  | [], es, vs, us, h, r => by
    unfold RelDs at h
    subst h
    exact r
  | d :: ds, es, vs, us, h, r => by
    unfold RelDs at h
    obtain ⟨u, ws, e, r0, rs⟩ := h
    subst e
    show RelDs W H m n (d :: (ds ++ es)) (u :: (ws ++ us))
    unfold RelDs
    exact ⟨u, ws ++ us, rfl, r0, relDs_app rs r⟩
theorem relDs_drop : ∀ (k : Nat) {ds : List D} {vs : List V}, RelDs W H m n ds vs → RelDs W H m n (ds.drop k) (vs.drop k)
  | 0, _, _, h => h
  | k + 1, [], vs, h => by
    unfold RelDs at h
    subst h
    show RelDs W H m n [] []
    unfold RelDs
    rfl
  | k + 1, d :: ds, vs, h => by
    unfold RelDs at h
    obtain ⟨u, ws, e, r0, rs⟩ := h
    subst e
    exact relDs_drop k rs
theorem relDs_take : ∀ (k : Nat) {ds : List D} {vs : List V}, RelDs W H m n ds vs → RelDs W H m n (ds.take k) (vs.take k)
  | 0, _, _, h => by
    show RelDs W H m n [] []
    unfold RelDs
    rfl
  | k + 1, [], vs, h => by
    unfold RelDs at h
    subst h
    show RelDs W H m n [] []
    unfold RelDs
    rfl
  | k + 1, d :: ds, vs, h => by
    unfold RelDs at h
    obtain ⟨u, ws, e, r0, rs⟩ := h
    subst e
    show RelDs W H m n (d :: ds.take k) (u :: ws.take k)
    unfold RelDs
    exact ⟨u, _, rfl, r0, relDs_take k rs⟩
theorem relDs_rep {ds : List D} {vs : List V} (h : RelDs W H m n ds vs) : ∀ k : Nat, RelDs W H m n (List.replicate k ds).flatten (List.replicate k vs).flatten
  | 0 => by
    show RelDs W H m n [] []
    unfold RelDs
    rfl
  | k + 1 => by
    rw [List.replicate_succ, List.replicate_succ, List.flatten_cons, List.flatten_cons]
    exact relDs_app h (relDs_rep h k)
theorem relDs_nil {ds : List D} {vs : List V} (h : RelDs W H m n ds vs) : vs = [] ↔ ds = [] := by
  have e := h.len
  cases ds <;> cases vs <;> simp_all

/-! ### + -/
def opAdd : Op2
  | .int i, .int j, S => some (.int (i + j), S)
  | .str a, .str b, S => if a.length + b.length ≤ 1000000 then some (.str (a ++ b), S) else none
  | .tup a, .tup b, S => if a.length + b.length ≤ 1000000 then some (.tup (a ++ b), S) else none
  | .loc j, .loc k, S => match S.get j, S.get k with
    | some (.lst a), some (.lst b) => if a.length + b.length ≤ 1000000 then some (.loc S.n, S.push (.lst (a ++ b))) else none
    | _, _ => none
  | _, _, _ => none
theorem op_z_add (hK : X.K = W.K) : OpR X (binaryOp .Add) (rOp W opAdd) := by
  intro pins s σ H x y v u Q I rx ry h
  obtain ⟨m, S, a, b, rs, ra, rb, p⟩ := h
  cases a <;> cases b <;> try exact p.elim
  case int.int i j =>
    cases relD_int ra
    cases relD_int rb
    exact op_add pins s σ H _ _ v u Q I rx ry ⟨i, j, rfl, rfl, p.ret rs of_int⟩
  case str.str i j =>
    cases relD_str ra
    cases relD_str rb
    have p : PostO W (RelD W) H m S.n (if i.length + j.length ≤ 1000000 then some (.str (i ++ j), S) else none) Q := p
    by_cases hl : i.length + j.length ≤ 1000000
    · rw [if_pos hl] at p
      exact op_add_str pins s σ H _ _ v u Q I rx ry ⟨i, j, rfl, rfl, Nat.le_trans hl line1000000, p.ret rs of_str⟩
    · rw [if_neg hl] at p
      exact p.elim
  case tup.tup i j =>
    obtain ⟨a, vs, ea, ta, ra⟩ := relD_tupE ra
    obtain ⟨b, us, eb, tb, rb⟩ := relD_tupE rb
    have p : PostO W (RelD W) H m S.n (if i.length + j.length ≤ 1000000 then some (.tup (i ++ j), S) else none) Q := p
    by_cases hl : i.length + j.length ≤ 1000000
    · rw [if_pos hl] at p
      refine op_catA pins s σ H _ _ v u Q I rx ry ⟨a, b, vs, us, ea, eb, by rw [hK]; exact ta.sq, by rw [hK]; exact tb.sq, Nat.le_trans (by rw [ra.len, rb.len]; exact hl) line1000000, fun e => ?_, fun _ e => ?_, fun _ _ q hq => ?_⟩
      · have e2 := (relDs_nil ra).mp e
        subst e2
        exact p.ret rs (of_tup tb rb)
      · have e2 := (relDs_nil rb).mp e
        subst e2
        rw [List.append_nil] at p
        exact p.ret rs (of_tup ta ra)
      · exact p.new rs hq (relD_tup rs hq (relDs_app ra rb))
    · rw [if_neg hl] at p
      exact p.elim
  case loc.loc i j =>
    obtain ⟨_, ea⟩ := relD_locE ra
    obtain ⟨_, eb⟩ := relD_locE rb
    have p : PostO W (RelD W) H m S.n (match S.get i, S.get j with
      | some (.lst a), some (.lst b) => if a.length + b.length ≤ 1000000 then some (.loc S.n, S.push (.lst (a ++ b))) else none
      | _, _ => none) Q := p
    split at p
    · rename_i ds es hi hj
      obtain ⟨vs, hv, rv⟩ := rs.lst hi
      obtain ⟨us, hu, ru⟩ := rs.lst hj
      by_cases hl : ds.length + es.length ≤ 1000000
      · rw [if_pos hl] at p
        exact op_cat pins s σ H _ _ v u Q I rx ry ⟨_, _, vs, us, ea, eb, hv, hu, Nat.le_trans (by rw [rv.len, ru.len]; exact hl) line1000000, fun q hq => p.newS (o := .lst (vs ++ us)) rs hq ⟨_, rfl, relDs_app rv ru⟩ relD_loc⟩
      · rw [if_neg hl] at p
        exact p.elim
    · exact p.elim
/-! ### -, *, %, //, ** -/
def opSub : Op2
  | .int i, .int j, S => some (.int (i - j), S)
  | _, _, _ => none
theorem op_z_sub : OpR X (binaryOp .Sub) (rOp W opSub) := by
  intro pins s σ H x y v u Q I rx ry h
  obtain ⟨m, S, a, b, rs, ra, rb, p⟩ := h
  cases a <;> cases b <;> try exact p.elim
  case int.int i j =>
    cases relD_int ra
    cases relD_int rb
    exact op_sub pins s σ H _ _ v u Q I rx ry ⟨i, j, rfl, rfl, p.ret rs of_int⟩
/-- a text, so many times -/
def repS (k : Nat) (x : Str) : Str := ⟨(List.replicate k x.cps.toList).flatten.toArray⟩
theorem repS_eq (x : Str) : ∀ (k : Nat) (acc : List Nat), (List.replicate k x.cps).foldl (· ++ ·) acc.toArray = (acc ++ (List.replicate k x.cps.toList).flatten).toArray
  | 0, acc => by simp
  | k + 1, acc => by
    rw [List.replicate_succ, List.foldl_cons, List.replicate_succ, List.flatten_cons]
    have e : acc.toArray ++ x.cps = (acc ++ x.cps.toList).toArray := by
      apply Array.toList_inj.mp
      simp
    rw [e, repS_eq x k (acc ++ x.cps.toList), List.append_assoc]
theorem repS_len (k : Nat) (x : Str) : (repS k x).length = k * x.length := by
  show ((List.replicate k x.cps.toList).flatten.toArray).size = k * x.cps.size
  rw [List.size_toArray, List.length_flatten, List.map_replicate, Array.length_toList]
  induction k with
  | zero => simp
  | succ k ih => rw [List.replicate_succ, List.sum_cons, ih, Nat.succ_mul, Nat.add_comm]
def opMul : Op2
  | .str x, .int k, S => if decide (2 ≤ k) && (decide (k ≤ 100000) && (decide (1 ≤ x.length) && decide (x.length ≤ 10))) then some (.str (repS k.toNat x), S) else none
  | .int i, .int j, S => if i.natAbs.log2 + j.natAbs.log2 < 1000000 then some (.int (i * j), S) else none
  | .tup a, .int k, S => if decide (a ≠ []) && (decide (2 ≤ k) && (decide (k ≤ 1000) && decide (a.length ≤ 1000))) then some (.tup (List.replicate k.toNat a).flatten, S) else none
  | .loc j, .int k, S => match S.get j with
    | some (.lst a) => if decide (0 ≤ k) && (decide (k ≤ 1000) && decide (a.length ≤ 1000)) then some (.loc S.n, S.push (.lst (List.replicate k.toNat a).flatten)) else none
    | _ => none
  | _, _, _ => none
theorem op_z_mul (hK : X.K = W.K) : OpR X (binaryOp .Mult) (rOp W opMul) := by
  intro pins s σ H x y v u Q I rx ry h
  obtain ⟨m, S, a, b, rs, ra, rb, p⟩ := h
  cases a <;> cases b <;> try exact p.elim
  case int.int i j =>
    cases relD_int ra
    cases relD_int rb
    have p : PostO W (RelD W) H m S.n (if i.natAbs.log2 + j.natAbs.log2 < 1000000 then some (.int (i * j), S) else none) Q := p
    by_cases hl : i.natAbs.log2 + j.natAbs.log2 < 1000000
    · rw [if_pos hl] at p
      exact op_mulW pins s σ H _ _ v u Q I rx ry ⟨i, j, rfl, rfl, hl, p.ret rs of_int⟩
    · rw [if_neg hl] at p
      exact p.elim
  case str.int x k =>
    cases relD_str ra
    cases relD_int rb
    have p : PostO W (RelD W) H m S.n (if decide (2 ≤ k) && (decide (k ≤ 100000) && (decide (1 ≤ x.length) && decide (x.length ≤ 10))) then some (.str (repS k.toNat x), S) else none) Q := p
    by_cases hl : (decide (2 ≤ k) && (decide (k ≤ 100000) && (decide (1 ≤ x.length) && decide (x.length ≤ 10)))) = true
    · rw [if_pos hl] at p
      simp only [Bool.and_eq_true, decide_eq_true_eq] at hl
      obtain ⟨h1, h2, h3, h4⟩ := hl
      obtain ⟨t, rfl⟩ := rx
      obtain ⟨t', rfl⟩ := ry
      have fin : Q (.str (repS k.toNat x)) H := p.ret rs of_str
      have z1 : ¬ k < 1 := by omega
      have z2 : (k == 1 || x.length == 0) = false := by simp; omega
      have z3 : x.length * k.toNat ≤ 10 * 100000 := Nat.mul_le_mul h4 (by omega)
      refine P.mul_str (by simp; omega) (fun _ _ z => ?_) (fun _ _ => ?_) ?_
      · have a : (2 ^ 63 - 1) / k ≥ 10 := by
          have b : (10 : Int) ≤ (2 ^ 63 - 1) / k := (Int.le_ediv_iff_mul_le (by omega)).mpr (by omega)
          exact b
        omega
      · show decide (x.length * k.toNat > sizeLine) = false
        rw [sizeLine_eq]
        simp
        omega
      · rw [if_neg z1, z2]
        show (Made.str ⟨(List.replicate k.toNat x.cps).foldl (· ++ ·) #[]⟩).post _ _
        have e := repS_eq x k.toNat []
        rw [List.nil_append] at e
        have e2 : (⟨(List.replicate k.toNat x.cps).foldl (· ++ ·) #[]⟩ : Str) = repS k.toNat x := by
          unfold repS
          rw [← e] <;> rfl
        rw [e2]
        exact ⟨by rw [repS_len, Nat.mul_comm]; exact Nat.le_trans z3 line1000000, .str (repS k.toNat x), H, I.tok _, ⟨_, rfl⟩, fin⟩
    · rw [if_neg hl] at p
      exact p.elim
  case tup.int i k =>
    obtain ⟨a, vs, ea, ta, ra⟩ := relD_tupE ra
    cases relD_int rb
    have p : PostO W (RelD W) H m S.n (if decide (i ≠ []) && (decide (2 ≤ k) && (decide (k ≤ 1000) && decide (i.length ≤ 1000))) then some (.tup (List.replicate k.toNat i).flatten, S) else none) Q := p
    by_cases hl : (decide (i ≠ []) && (decide (2 ≤ k) && (decide (k ≤ 1000) && decide (i.length ≤ 1000)))) = true
    · rw [if_pos hl] at p
      simp only [Bool.and_eq_true, decide_eq_true_eq] at hl
      obtain ⟨h1, h2, h3, h4⟩ := hl
      exact op_repT pins s σ H _ _ v u Q I rx ry ⟨a, k, vs, ea, rfl, by rw [hK]; exact ta.sq, fun e => h1 ((relDs_nil ra).mp e), h2, h3, by rw [ra.len]; exact h4, fun q hq => p.new rs hq (relD_tup rs hq (relDs_rep ra _))⟩
    · rw [if_neg hl] at p
      exact p.elim
  case loc.int i k =>
    obtain ⟨_, ea⟩ := relD_locE ra
    cases relD_int rb
    have p : PostO W (RelD W) H m S.n (match S.get i with
      | some (.lst a) => if decide (0 ≤ k) && (decide (k ≤ 1000) && decide (a.length ≤ 1000)) then some (.loc S.n, S.push (.lst (List.replicate k.toNat a).flatten)) else none
      | _ => none) Q := p
    split at p
    · rename_i ds hi
      obtain ⟨vs, hv, rv⟩ := rs.lst hi
      by_cases hl : (decide (0 ≤ k) && (decide (k ≤ 1000) && decide (ds.length ≤ 1000))) = true
      · rw [if_pos hl] at p
        simp only [Bool.and_eq_true, decide_eq_true_eq] at hl
        obtain ⟨h1, h2, h3⟩ := hl
        have hz : vs.length * k.toNat ≤ 1000 * 1000 := Nat.mul_le_mul (by rw [rv.len]; exact h3) (by omega)
        exact op_rep pins s σ H _ _ v u Q I rx ry ⟨_, k, vs, ea, rfl, hv, by omega, by omega, Nat.le_trans (by omega) line1000000, fun q hq => p.newS (o := .lst (List.replicate k.toNat vs).flatten) rs hq ⟨_, rfl, relDs_rep rv _⟩ relD_loc⟩
      · rw [if_neg hl] at p
        exact p.elim
    · exact p.elim
def opMod : Op2
  | .int i, .int j, S => if 0 < j then some (.int (i % j), S) else none
  | _, _, _ => none
theorem op_z_mod : OpR X (binaryOp .Mod) (rOp W opMod) := by
  intro pins s σ H x y v u Q I rx ry h
  obtain ⟨m, S, a, b, rs, ra, rb, p⟩ := h
  cases a <;> cases b <;> try exact p.elim
  case int.int i j =>
    cases relD_int ra
    cases relD_int rb
    have p : PostO W (RelD W) H m S.n (if 0 < j then some (.int (i % j), S) else none) Q := p
    by_cases hl : 0 < j
    · rw [if_pos hl] at p
      exact op_mod pins s σ H _ _ v u Q I rx ry ⟨i, j, rfl, rfl, hl, p.ret rs of_int⟩
    · rw [if_neg hl] at p
      exact p.elim
def opFdiv : Op2
  | .int i, .int j, S => if decide (0 < j) && decide (j.natAbs.log2 < 9000) then some (.int (i / j), S) else none
  | _, _, _ => none
theorem op_z_fdiv : OpR X (binaryOp .FloorDiv) (rOp W opFdiv) := by
  intro pins s σ H x y v u Q I rx ry h
  obtain ⟨m, S, a, b, rs, ra, rb, p⟩ := h
  cases a <;> cases b <;> try exact p.elim
  case int.int i j =>
    cases relD_int ra
    cases relD_int rb
    have p : PostO W (RelD W) H m S.n (if decide (0 < j) && decide (j.natAbs.log2 < 9000) then some (.int (i / j), S) else none) Q := p
    by_cases hl : (decide (0 < j) && decide (j.natAbs.log2 < 9000)) = true
    · rw [if_pos hl] at p
      simp only [Bool.and_eq_true, decide_eq_true_eq] at hl
      exact op_fdivW pins s σ H _ _ v u Q I rx ry ⟨i, j, rfl, rfl, hl, p.ret rs of_int⟩
    · rw [if_neg hl] at p
      exact p.elim
def opPow : Op2
  | .int i, .int j, S => if decide (0 ≤ j) && (decide (j ≤ 1000) && decide (i.natAbs.log2 < 10000)) then some (.int (i ^ j.toNat), S) else none
  | _, _, _ => none
theorem op_z_pow : OpR X (binaryOp .Pow) (rOp W opPow) := by
  intro pins s σ H x y v u Q I rx ry h
  obtain ⟨m, S, a, b, rs, ra, rb, p⟩ := h
  cases a <;> cases b <;> try exact p.elim
  case int.int i j =>
    cases relD_int ra
    cases relD_int rb
    have p : PostO W (RelD W) H m S.n (if decide (0 ≤ j) && (decide (j ≤ 1000) && decide (i.natAbs.log2 < 10000)) then some (.int (i ^ j.toNat), S) else none) Q := p
    by_cases hl : (decide (0 ≤ j) && (decide (j ≤ 1000) && decide (i.natAbs.log2 < 10000))) = true
    · rw [if_pos hl] at p
      simp only [Bool.and_eq_true, decide_eq_true_eq] at hl
      obtain ⟨h1, h2, h3⟩ := hl
      obtain ⟨t, rfl⟩ := rx
      obtain ⟨t', rfl⟩ := ry
      have hb : Builtin.Int.intBits i ≤ 10001 := by
        show (if (i == 0) = true then 0 else i.natAbs.log2 + 1) ≤ 10001
        split <;> omega
      have hm : (Builtin.Int.intBits i : Int) * j ≤ 10001 * 1000 := Int.mul_le_mul (by omega) h2 h1 (by omega)
      exact pow_int h1 (by omega) ⟨.int (i ^ j.toNat), H, I.tok _, ⟨_, rfl⟩, p.ret rs of_int⟩
    · rw [if_neg hl] at p
      exact p.elim
end
end Z
set_option Elab.async false
set_option linter.all false
set_option autoImplicit false
set_option maxRecDepth 100000
/-! Z8: comparisons, subscripts, slices by values. -/
namespace Z
open PySem PySem.Spec PyProof.Rows L2

/-! ### as plain data -/
mutual
def toP : D → Option PyData
  | .non => some .none
  | .bl b => some (.bool b)
  | .int i => some (.int i)
  | .str x => some (.str x)
  | .tup ds => match toPs ds with
    | some ps => some (.tuple ps)
    | none => none
  | .sq ds => match toPs ds with
    | some ps => some (.list ps)
    | none => none
  | _ => none
def toPs : List D → Option (List PyData)
  | [] => some []
  | d :: ds => match toP d with
    | some p => match toPs ds with
      | some ps => some (p :: ps)
      | none => none
    | none => none
end
/-- .. a list of the store, too -/
def toPt (S : Sto) : D → Option PyData
  | .loc k => match S.get k with
    | some (.lst ds) => match toPs ds with
      | some ps => some (.list ps)
      | none => none
    | _ => none
  | d => toP d
section
variable {W : Wd} {H : Hp} {m : Nat → Addr} {n : Nat}
mutual
theorem dp_of : ∀ (d : D) (v : V) (p : PyData), RelD W H m n d v → toP d = some p → Dp W.K H v p
  | .non, v, p, h, e => by
    cases relD_non h
    cases e
    exact .non
  | .bl b, v, p, h, e => by
    cases relD_bl h
    cases e
    exact .bl b
  | .int i, v, p, h, e => by
    cases relD_int h
    cases e
    exact .int i
  | .str x, v, p, h, e => by
    cases relD_str h
    cases e
    exact .str x
  | .tup ds, v, p, h, e => by
    obtain ⟨a, vs, ea, t, r⟩ := relD_tupE h
    subst ea
    have e : (match toPs ds with
      | some ps => some (PyData.tuple ps)
      | none => none) = some p := e
    cases q : toPs ds with
    | none => rw [q] at e; cases e
    | some ps =>
      rw [q] at e
      cases e
      exact .tup t.sq (dps_of ds vs ps r q)
  | .ktp ds, v, p, h, e => by cases e
  | .loc k, v, p, h, e => by cases e
  | .exc c x, v, p, h, e => by cases e
  | .sq ds, v, p, h, e => by
    unfold RelD at h
    obtain ⟨a, vs, ea, t, r⟩ := h
    subst ea
    have e : (match toPs ds with
      | some ps => some (PyData.list ps)
      | none => none) = some p := e
    cases q : toPs ds with
    | none => rw [q] at e; cases e
    | some ps =>
      rw [q] at e
      cases e
      exact .lst t.sq (dps_of ds vs ps r q)
  | .lam c, v, p, h, e => by cases e
theorem dps_of : ∀ (ds : List D) (vs : List V) (ps : List PyData), RelDs W H m n ds vs → toPs ds = some ps → DpAll W.K H vs ps
  | [], vs, ps, h, e => by
    unfold RelDs at h
    subst h
    cases e
    exact .nil
  | d :: ds, vs, ps, h, e => by
    unfold RelDs at h
    obtain ⟨u, us, e1, r, rs⟩ := h
    subst e1
    have e : (match toP d with
      | some p => match toPs ds with
        | some ps => some (p :: ps)
        | none => none
      | none => none) = some ps := e
    cases q : toP d with
    | none => rw [q] at e; cases e
    | some p =>
      rw [q] at e
      have e : (match toPs ds with
        | some ps => some (p :: ps)
        | none => none) = some ps := e
      cases q2 : toPs ds with
      | none => rw [q2] at e; cases e
      | some ps2 =>
        rw [q2] at e
        cases e
        exact .cons (dp_of d u p r q) (dps_of ds us ps2 rs q2)
end
theorem dpt_of {S : Sto} (rs : RelS W H m S) : ∀ {d : D} {v : V} {p : PyData}, RelD W H m S.n d v → toPt S d = some p → Dp W.K H v p := by
  intro d v p h e
  cases d with
  | loc k =>
    obtain ⟨_, ev⟩ := relD_locE h
    subst ev
    have e : (match S.get k with
      | some (.lst ds) => match toPs ds with
        | some ps => some (PyData.list ps)
        | none => none
      | _ => none) = some p := e
    split at e
    · rename_i ds hk
      obtain ⟨vs, hm, r⟩ := rs.lst hk
      cases q : toPs ds with
      | none => rw [q] at e; cases e
      | some ps =>
        rw [q] at e
        cases e
        exact .lst (SqL.of hm) (dps_of ds vs ps r q)
    · cases e
  | non => exact dp_of _ _ _ h e
  | bl b => exact dp_of _ _ _ h e
  | int i => exact dp_of _ _ _ h e
  | str x => exact dp_of _ _ _ h e
  | tup ds => exact dp_of _ _ _ h e
  | ktp ds => exact dp_of _ _ _ h e
  | exc c x => exact dp_of _ _ _ h e
  | sq c => exact dp_of _ _ _ h e
  | lam c => exact dp_of _ _ _ h e
end
/-! ### == and != -/
def eqD (a b : D) (S : Sto) : Option Bool := match a, b with
  | .int i, .int j => some (decide (i = j))
  | .str x, .str y => some (decide (x = y))
  | .bl x, .bl y => some (x == y)
  | a, b => match toPt S a, toPt S b with
    | some p, some q => if SeqAt.shaped p && SeqAt.shaped q then some (PyData.eqv p q) else none
    | _, _ => none
def opEq : Op2 := fun a b S => match eqD a b S with
  | some k => some (.bl k, S)
  | none => none
def opNe : Op2 := fun a b S => match eqD a b S with
  | some k => some (.bl (!k), S)
  | none => none
section
variable {X : Cx} {W : Wd}
/-- what a comparison for equality asks -/
theorem eqD_cases {H : Hp} {m : Nat → Addr} {S : Sto} {a b : D} {x y : V} {k : Bool} (rs : RelS W H m S) (ra : RelD W H m S.n a x) (rb : RelD W H m S.n b y) (h : eqD a b S = some k) :
    (scal x y = true ∧ decide (x = y) = k) ∨ ∃ d e, Dp W.K H x d ∧ Dp W.K H y e ∧ SeqAt.shaped d = true ∧ SeqAt.shaped e = true ∧ PyData.eqv d e = k := by
  have gen : (match toPt S a, toPt S b with
    | some p, some q => if SeqAt.shaped p && SeqAt.shaped q then some (PyData.eqv p q) else none
    | _, _ => none) = some k → ∃ d e, Dp W.K H x d ∧ Dp W.K H y e ∧ SeqAt.shaped d = true ∧ SeqAt.shaped e = true ∧ PyData.eqv d e = k := fun h => by
    cases qa : toPt S a with
    | none => rw [qa] at h; cases h
    | some p =>
      cases qb : toPt S b with
      | none => rw [qa, qb] at h; cases h
      | some q =>
        rw [qa, qb] at h
        have h : (if (SeqAt.shaped p && SeqAt.shaped q) = true then some (PyData.eqv p q) else none) = some k := h
        by_cases hs : (SeqAt.shaped p && SeqAt.shaped q) = true
        · rw [if_pos hs] at h
          simp only [Bool.and_eq_true] at hs
          exact ⟨p, q, dpt_of rs ra qa, dpt_of rs rb qb, hs.1, hs.2, Option.some.inj h⟩
        · rw [if_neg hs] at h
          cases h
  cases a <;> cases b <;> try exact .inr (gen h)
  case str.str i j =>
    cases relD_str ra
    cases relD_str rb
    exact .inl ⟨rfl, by rw [dec_str]; exact (Bool.beq_eq_decide_eq i j).trans (Option.some.inj h)⟩
theorem op_z_eq (hK : X.K = W.K) (hu : X.A.units + 64 < cLine) : OpR X (compareOp .Eq) (rOp W opEq) := by
  intro pins s σ H x y v u Q I rx ry h
  obtain ⟨m, S, a, b, rs, ra, rb, p⟩ := h
  have p : PostO W (RelD W) H m S.n (match eqD a b S with
    | some k => some (.bl k, S)
    | none => none) Q := p
  cases q : eqD a b S with
  | none => rw [q] at p; exact p.elim
  | some k =>
    rw [q] at p
    have fin : Q (.bl k) H := p.ret rs of_bl
    rcases eqD_cases rs ra rb q with ⟨h1, h2⟩ | ⟨d, e, h1, h2, h3, h4, h5⟩
    · exact op_eq pins s σ H x y v u Q I rx ry ⟨h1, by rw [h2]; exact fin⟩
    · exact op_eqD hu pins s σ H x y v u Q I rx ry ⟨d, e, by rw [hK]; exact h1, by rw [hK]; exact h2, h3, h4, by rw [h5]; exact fin⟩
theorem op_z_ne (hK : X.K = W.K) (hu : X.A.units + 64 < cLine) : OpR X (compareOp .NotEq) (rOp W opNe) := by
  intro pins s σ H x y v u Q I rx ry h
  obtain ⟨m, S, a, b, rs, ra, rb, p⟩ := h
  have p : PostO W (RelD W) H m S.n (match eqD a b S with
    | some k => some (.bl (!k), S)
    | none => none) Q := p
  cases q : eqD a b S with
  | none => rw [q] at p; exact p.elim
  | some k =>
    rw [q] at p
    have fin : Q (.bl (!k)) H := p.ret rs of_bl
    rcases eqD_cases rs ra rb q with ⟨h1, h2⟩ | ⟨d, e, h1, h2, h3, h4, h5⟩
    · exact op_ne pins s σ H x y v u Q I rx ry ⟨h1, by rw [h2]; exact fin⟩
    · exact op_neD hu pins s σ H x y v u Q I rx ry ⟨d, e, by rw [hK]; exact h1, by rw [hK]; exact h2, h3, h4, by rw [h5]; exact fin⟩
/-! ### is None -/
def opIs : Op2
  | a, .non, S => match a with
    | .non => some (.bl true, S)
    | _ => some (.bl false, S)
  | _, _, _ => none
def opIsNot : Op2
  | a, .non, S => match a with
    | .non => some (.bl false, S)
    | _ => some (.bl true, S)
  | _, _, _ => none
theorem relD_nonE {H : Hp} {m : Nat → Addr} {n : Nat} {a : D} {x : V} (r : RelD W H m n a x) : decide (x = .non) = (match a with | .non => true | _ => false) := by
  cases a with
  | non => cases relD_non r; rfl
  | bl b => cases relD_bl r; rfl
  | int i => cases relD_int r; rfl
  | str i => cases relD_str r; rfl
  | tup ds => obtain ⟨a, vs, e, _⟩ := relD_tupE r; subst e; rfl
  | ktp ds =>
    unfold RelD at r
    obtain ⟨_, _, e, _⟩ := r
    subst e
    rfl
  | loc k => obtain ⟨_, e⟩ := relD_locE r; subst e; rfl
  | exc c y =>
    unfold RelD at r
    obtain ⟨_, _, _, e, _⟩ := r
    subst e
    rfl
  | sq c =>
    unfold RelD at r
    obtain ⟨_, _, e, _⟩ := r
    subst e
    rfl
  | lam c =>
    unfold RelD at r
    obtain ⟨_, _, e, _⟩ := r
    subst e
    rfl
theorem op_z_is : OpR X (compareOp .Is) (rOp W opIs) := by
  intro pins s σ H x y v u Q I rx ry h
  obtain ⟨m, S, a, b, rs, ra, rb, p⟩ := h
  cases b <;> try exact p.elim
  case non =>
    cases relD_non rb
    refine op_isN pins s σ H _ _ v u Q I rx ry ⟨rfl, ?_⟩
    rw [relD_nonE ra]
    cases a <;> exact p.ret rs of_bl
theorem op_z_isnot : OpR X (compareOp .IsNot) (rOp W opIsNot) := by
  intro pins s σ H x y v u Q I rx ry h
  obtain ⟨m, S, a, b, rs, ra, rb, p⟩ := h
  cases b <;> try exact p.elim
  case non =>
    cases relD_non rb
    refine op_notN pins s σ H _ _ v u Q I rx ry ⟨rfl, ?_⟩
    rw [relD_nonE ra]
    cases a <;> exact p.ret rs of_bl
/-! ### order -/
/-- a tuple of ints -/
def intsD : List D → Option (List Int)
  | [] => some []
  | .int i :: ds => match intsD ds with
    | some is => some (i :: is)
    | none => none
  | _ => none
theorem intsD_ok {H : Hp} {m : Nat → Addr} {n : Nat} : ∀ {ds : List D} {vs : List V} {is : List Int}, RelDs W H m n ds vs → intsD ds = some is → vs = is.map V.int
  | [], vs, is, h, e => by
    unfold RelDs at h
    cases e
    exact h
  | d :: ds, vs, is, h, e => by
    unfold RelDs at h
    obtain ⟨u, us, e1, r, rs⟩ := h
    subst e1
    cases d <;> try cases e
    case int i =>
      have e : (match intsD ds with
        | some is => some (i :: is)
        | none => none) = some is := e
      cases q : intsD ds with
      | none => rw [q] at e; cases e
      | some js =>
        rw [q] at e
        cases e
        cases relD_int r
        rw [intsD_ok rs q, List.map_cons]
theorem intsD_rel {H : Hp} {m : Nat → Addr} {n : Nat} : ∀ (is : List Int), RelDs W H m n (is.map D.int) (is.map V.int)
  | [] => by
    show RelDs W H m n [] []
    unfold RelDs
    rfl
  | i :: is => by
    show RelDs W H m n (.int i :: is.map D.int) (.int i :: is.map V.int)
    unfold RelDs
    exact ⟨_, _, rfl, of_int, intsD_rel is⟩
def opLt : Op2
  | .int i, .int j, S => some (.bl (decide (i < j)), S)
  | .str a, .str b, S => some (.bl (decide (a.cps.toList < b.cps.toList)), S)
  | .tup a, .tup b, S => match intsD a, intsD b with
    | some is, some js => some (.bl (HT.lexLt is js), S)
    | _, _ => none
  | _, _, _ => none
theorem op_z_lt (hK : X.K = W.K) (hu : X.A.units < cLine) : OpR X (compareOp .Lt) (rOp W opLt) := by
  intro pins s σ H x y v u Q I rx ry h
  obtain ⟨m, S, a, b, rs, ra, rb, p⟩ := h
  cases a <;> cases b <;> try exact p.elim
  case int.int i j =>
    cases relD_int ra
    cases relD_int rb
    exact op_lt pins s σ H _ _ v u Q I rx ry ⟨i, j, rfl, rfl, p.ret rs of_bl⟩
  case str.str i j =>
    cases relD_str ra
    cases relD_str rb
    exact op_lt_str pins s σ H _ _ v u Q I rx ry ⟨i, j, rfl, rfl, p.ret rs of_bl⟩
  case tup.tup i j =>
    obtain ⟨a, vs, ea, ta, ra⟩ := relD_tupE ra
    obtain ⟨b, us, eb, tb, rb⟩ := relD_tupE rb
    have p : PostO W (RelD W) H m S.n (match intsD i, intsD j with
      | some is, some js => some (.bl (HT.lexLt is js), S)
      | _, _ => none) Q := p
    split at p
    · rename_i is js hi hj
      have e1 := intsD_ok ra hi
      have e2 := intsD_ok rb hj
      subst e1 e2
      exact op_ltT hu pins s σ H _ _ v u Q I rx ry ⟨a, b, is, js, ea, eb, by rw [hK]; exact ta.sq, by rw [hK]; exact tb.sq, p.ret rs of_bl⟩
    · exact p.elim
def opI2 (g : Int → Int → Bool) : Op2
  | .int i, .int j, S => some (.bl (g i j), S)
  | _, _, _ => none
theorem op_z_cmpI {op : CmpOp} {g : Int → Int → Bool} (ho : OpR X (compareOp op) (rI0 fun i j => .bl (g i j))) : OpR X (compareOp op) (rOp W (opI2 g)) := by
  intro pins s σ H x y v u Q I rx ry h
  obtain ⟨m, S, a, b, rs, ra, rb, p⟩ := h
  cases a <;> cases b <;> try exact p.elim
  case int.int i j =>
    cases relD_int ra
    cases relD_int rb
    exact ho pins s σ H _ _ v u Q I rx ry ⟨i, j, rfl, rfl, p.ret rs of_bl⟩
abbrev opLe : Op2 := opI2 fun i j => decide (i ≤ j)
abbrev opGt : Op2 := opI2 fun i j => decide (j < i)
abbrev opGe : Op2 := opI2 fun i j => decide (j ≤ i)
theorem op_z_le : OpR X (compareOp .LtE) (rOp W opLe) := op_z_cmpI op_le
theorem op_z_gt : OpR X (compareOp .Gt) (rOp W opGt) := op_z_cmpI op_gt
theorem op_z_ge : OpR X (compareOp .GtE) (rOp W opGe) := op_z_cmpI op_ge
end
end Z
set_option Elab.async false
set_option linter.all false
set_option autoImplicit false
set_option maxRecDepth 100000
/-! Z9: in, subscripts, slices by values. -/
namespace Z
open PySem PySem.Spec PyProof.Rows L2

/-! ### flat values -/
def flD : D → Option V
  | .non => some .non
  | .bl b => some (.bl b)
  | .int i => some (.int i)
  | .str x => some (.str x)
  | _ => none
def flDs : List D → Option (List V)
  | [] => some []
  | d :: ds => match flD d with
    | some v => match flDs ds with
      | some vs => some (v :: vs)
      | none => none
    | none => none
section
variable {W : Wd} {H : Hp} {m : Nat → Addr} {n : Nat}
theorem flD_ok {d : D} {v x : V} (h : flD d = some v) (r : RelD W H m n d x) : x = v ∧ flatV v = true := by
  cases d with
  | non => cases h; exact ⟨relD_non r, rfl⟩
  | bl b => cases h; exact ⟨relD_bl r, rfl⟩
  | int b => cases h; exact ⟨relD_int r, rfl⟩
  | str b => cases h; exact ⟨relD_str r, rfl⟩
  | _ => cases h
theorem flDs_ok : ∀ {ds : List D} {vs xs : List V}, flDs ds = some vs → RelDs W H m n ds xs → xs = vs ∧ vs.all flatV = true
  | [], vs, xs, h, r => by
    unfold RelDs at r
    cases h
    exact ⟨r, rfl⟩
  | d :: ds, vs, xs, h, r => by
    unfold RelDs at r
    obtain ⟨u, us, e, r0, rs⟩ := r
    have h : (match flD d with
      | some v => match flDs ds with
        | some vs => some (v :: vs)
        | none => none
      | none => none) = some vs := h
    cases q : flD d with
    | none => rw [q] at h; cases h
    | some v =>
      rw [q] at h
      have h : (match flDs ds with
        | some vs => some (v :: vs)
        | none => none) = some vs := h
      cases q2 : flDs ds with
      | none => rw [q2] at h; cases h
      | some ws =>
        rw [q2] at h
        cases h
        obtain ⟨e1, f1⟩ := flD_ok q r0
        obtain ⟨e2, f2⟩ := flDs_ok q2 rs
        subst e1 e2 e
        exact ⟨rfl, by rw [List.all_cons, f1, f2]; rfl⟩
end
/-- a dict's key -/
def kyD : D → Option Key
  | .int i => some (.inl i)
  | .str x => some (.inr x)
  | _ => none
def kysD : List D → Option (List Key)
  | [] => some []
  | d :: ds => match kyD d with
    | some k => match kysD ds with
      | some ks => some (k :: ks)
      | none => none
    | none => none
section
variable {W : Wd} {H : Hp} {m : Nat → Addr} {n : Nat}
theorem kyD_ok {d : D} {k : Key} {x : V} (h : kyD d = some k) (r : RelD W H m n d x) : x = kV k := by
  cases d with
  | int b => cases h; exact relD_int r
  | str b => cases h; exact relD_str r
  | _ => cases h
theorem kysD_ok : ∀ {ds : List D} {ks : List Key} {xs : List V}, kysD ds = some ks → RelDs W H m n ds xs → xs = ks.map kV
  | [], ks, xs, h, r => by
    unfold RelDs at r
    cases h
    exact r
  | d :: ds, ks, xs, h, r => by
    unfold RelDs at r
    obtain ⟨u, us, e, r0, rs⟩ := r
    have h : (match kyD d with
      | some k => match kysD ds with
        | some ks => some (k :: ks)
        | none => none
      | none => none) = some ks := h
    cases q : kyD d with
    | none => rw [q] at h; cases h
    | some v =>
      rw [q] at h
      have h : (match kysD ds with
        | some ks => some (v :: ks)
        | none => none) = some ks := h
      cases q2 : kysD ds with
      | none => rw [q2] at h; cases h
      | some ws =>
        rw [q2] at h
        cases h
        rw [e, kyD_ok q r0, kysD_ok q2 rs, List.map_cons]
/-- the same of the value of the dict's pairs -/
def FndR {κ : Type} [DecidableEq κ] (W : Wd) (H : Hp) (m : Nat → Addr) (n : Nat) (vs : List (κ × V)) (k : κ) : Option (κ × D) → Prop
  | some p => ∃ u, valV vs k = some u ∧ RelD W H m n p.2 u
  | none => valV vs k = none
theorem kvR_val {κ : Type} [DecidableEq κ] : ∀ {ps : List (κ × D)} {vs : List (κ × V)} (k : κ), KvR W H m n ps vs → FndR W H m n vs k (ps.find? fun p => decide (p.1 = k))
  | [], vs, k, h => by
    have h : vs = [] := h
    subst h
    show valV ([] : List (κ × V)) k = none
    exact valV_nil
  | p :: ps, vs, k, h => by
    obtain ⟨u, us, e, r, rs⟩ := h
    subst e
    by_cases q : p.1 = k
    · rw [List.find?_cons_of_pos (by simpa using q)]
      exact ⟨u, valV_pos q, r⟩
    · rw [List.find?_cons_of_neg (by simpa using q)]
      have z := kvR_val k rs
      have ev : valV ((p.1, u) :: us) k = valV us k := valV_neg (p := (p.1, u)) q
      cases q2 : (ps.find? fun p => decide (p.1 = k)) with
      | none =>
        rw [q2] at z
        exact ev.trans z
      | some p2 =>
        rw [q2] at z
        obtain ⟨w, z1, z2⟩ := z
        exact ⟨w, ev.trans z1, z2⟩
end
def valD {κ : Type} [DecidableEq κ] (ps : List (κ × D)) (k : κ) : Option D := match ps.find? fun p => decide (p.1 = k) with
  | some p => some p.2
  | none => none
/-- what a dict of the store gives: none: no such question -/
def dGetK (ps : List (Key × D)) (y : D) : Option (Option D) := match kyD y with
  | some ky => some (valD ps ky)
  | none => none
def dGetT (ps : List (List Key × D)) : D → Option (Option D)
  | .tup ds => match kysD ds with
    | some ks => some (valD ps ks)
    | none => none
  | _ => none
def dGet (S : Sto) (k : Nat) (y : D) : Option (Option D) := match S.get k with
  | some (.dk ps) => dGetK ps y
  | some (.fz (.dk ps)) => dGetK ps y
  | some (.dt ps) => dGetT ps y
  | some (.fz (.dt ps)) => dGetT ps y
  | _ => none
def DgR (W : Wd) (H : Hp) (m : Nat → Addr) (n : Nat) (a : Addr) (v : V) : Option D → Prop
  | some d => ∃ u, DGet H a v (some u) ∧ RelD W H m n d u
  | none => DGet H a v none
section
variable {X : Cx} {W : Wd} {H : Hp} {m : Nat → Addr}
theorem dk_get {S : Sto} (rs : RelS W H m S) {k : Nat} {ps : List (Key × D)} (h : S.get k = some (.dk ps) ∨ S.get k = some (.fz (.dk ps))) : ∃ vs, Rd H (m k) (.dK vs) ∧ KvR W H m S.n ps vs := by
  rcases h with h | h
  · obtain ⟨o, ho, g, hm, q⟩ := rs.at_ k (Sto.get_lt h)
    rw [h] at g
    cases g
    obtain ⟨vs, e, r⟩ := q
    subst e
    exact ⟨vs, .inl hm, r⟩
  · obtain ⟨o, ho, g, hm, q⟩ := rs.at_ k (Sto.get_lt h)
    rw [h] at g
    cases g
    obtain ⟨od, u, e, vs, e2, r⟩ := q
    subst e e2
    exact ⟨vs, .inr ⟨od, hm⟩, r⟩
theorem dt_get {S : Sto} (rs : RelS W H m S) {k : Nat} {ps : List (List Key × D)} (h : S.get k = some (.dt ps) ∨ S.get k = some (.fz (.dt ps))) : ∃ vs, Rd H (m k) (.dT vs) ∧ KvR W H m S.n ps vs := by
  rcases h with h | h
  · obtain ⟨o, ho, g, hm, q⟩ := rs.at_ k (Sto.get_lt h)
    rw [h] at g
    cases g
    obtain ⟨vs, e, r⟩ := q
    subst e
    exact ⟨vs, .inl hm, r⟩
  · obtain ⟨o, ho, g, hm, q⟩ := rs.at_ k (Sto.get_lt h)
    rw [h] at g
    cases g
    obtain ⟨od, u, e, vs, e2, r⟩ := q
    subst e e2
    exact ⟨vs, .inr ⟨od, hm⟩, r⟩
theorem dGetK_ok {S : Sto} (rs : RelS W H m S) {k : Nat} {ps : List (Key × D)} (hp : S.get k = some (.dk ps) ∨ S.get k = some (.fz (.dk ps))) {y : D} {r : Option D} {v : V} (h : dGetK ps y = some r) (ry : RelD W H m S.n y v) : DgR W H m S.n (m k) v r := by
  obtain ⟨vs, rd, kv⟩ := dk_get rs hp
  unfold dGetK at h
  cases q : kyD y with
  | none => rw [q] at h; cases h
  | some ky =>
    rw [q] at h
    have e := kyD_ok q ry
    have z := kvR_val ky kv
    have h : some (valD ps ky) = some r := h
    have h := Option.some.inj h
    subst h
    unfold valD
    cases q2 : (ps.find? fun p => decide (p.1 = ky)) with
    | none =>
      rw [q2] at z
      exact .inl ⟨vs, ky, rd, e, z.symm⟩
    | some p =>
      rw [q2] at z
      obtain ⟨u, z1, z2⟩ := z
      exact ⟨u, .inl ⟨vs, ky, rd, e, z1.symm⟩, z2⟩
theorem dGetT_ok {S : Sto} (rs : RelS W H m S) {k : Nat} {ps : List (List Key × D)} (hp : S.get k = some (.dt ps) ∨ S.get k = some (.fz (.dt ps))) {y : D} {r : Option D} {v : V} (h : dGetT ps y = some r) (ry : RelD W H m S.n y v) : DgR W H m S.n (m k) v r := by
  obtain ⟨vs, rd, kv⟩ := dt_get rs hp
  cases y <;> try cases h
  rename_i ds
  have h : (match kysD ds with
    | some ks => some (valD ps ks)
    | none => none) = some r := h
  cases q : kysD ds with
  | none => rw [q] at h; cases h
  | some ks =>
    rw [q] at h
    obtain ⟨b, us, e, t, ru⟩ := relD_tupE ry
    have e2 := kysD_ok q ru
    have z := kvR_val ks kv
    have h : some (valD ps ks) = some r := h
    have h := Option.some.inj h
    subst h
    subst e2
    unfold valD
    cases q2 : (ps.find? fun p => decide (p.1 = ks)) with
    | none =>
      rw [q2] at z
      exact .inr ⟨vs, ks, b, rd, e, t.1, z.symm⟩
    | some p =>
      rw [q2] at z
      obtain ⟨u, z1, z2⟩ := z
      exact ⟨u, .inr ⟨vs, ks, b, rd, e, t.1, z1.symm⟩, z2⟩
theorem dGet_ok {S : Sto} (rs : RelS W H m S) {k : Nat} {y : D} {r : Option D} {v : V} (h : dGet S k y = some r) (ry : RelD W H m S.n y v) : DgR W H m S.n (m k) v r := by
  unfold dGet at h
  split at h
  · rename_i ps hp
    exact dGetK_ok rs (.inl hp) h ry
  · rename_i ps hp
    exact dGetK_ok rs (.inr hp) h ry
  · rename_i ps hp
    exact dGetT_ok rs (.inl hp) h ry
  · rename_i ps hp
    exact dGetT_ok rs (.inr hp) h ry
  · cases h

/-! ### in -/
def inD (a b : D) (S : Sto) : Option Bool := match b with
  | .tup ds | .ktp ds => match flD a, flDs ds with
    | some v, some vs => some (inV v vs)
    | _, _ => none
  | .loc k => match S.get k with
    | some (.lst ds) => match flD a, flDs ds with
      | some v, some vs => some (inV v vs)
      | _, _ => match toPt S a, toPs ds with
        | some p, some qs => if SeqAt.shaped p && SeqAt.shaped (.list qs) then some (qs.any fun z => PyData.eqv z p) else none
        | _, _ => none
    | _ => match dGet S k a with
      | some r => some r.isSome
      | none => none
  | _ => none
def opIn : Op2 := fun a b S => match inD a b S with
  | some k => some (.bl k, S)
  | none => none
def opNotIn : Op2 := fun a b S => match inD a b S with
  | some k => some (.bl (!k), S)
  | none => none
/-- what is asked of the layer -/
inductive InC (K : PySem.W.Frag) (H : Hp) (x y : V) (k : Bool) : Prop where
  | seq (p : Addr) (xs : List V) (e : y = .ref p) (h : SqL K H p xs ∨ SqT K H p xs) (f : flatV x = true) (fs : xs.all flatV = true) (q : inV x xs = k)
  | deep (d : PyData) (ds : List PyData) (h1 : Dp K H x d) (h2 : Dp K H y (.list ds)) (h3 : SeqAt.shaped d = true) (h4 : SeqAt.shaped (.list ds) = true) (q : (ds.any fun z => PyData.eqv z d) = k)
  | dict (a : Addr) (o : Option V) (e : y = .ref a) (g : DGet H a x o) (q : o.isSome = k)
theorem inD_ok {S : Sto} (rs : RelS W H m S) {a b : D} {x y : V} {k : Bool} (h : inD a b S = some k) (ra : RelD W H m S.n a x) (rb : RelD W H m S.n b y) : InC W.K H x y k := by
  have sq : ∀ {ds : List D} {us : List V} {p : Addr}, y = .ref p → (SqL W.K H p us ∨ SqT W.K H p us) → RelDs W H m S.n ds us → (match flD a, flDs ds with
      | some v, some vs => some (inV v vs)
      | _, _ => none) = some k → InC W.K H x y k := fun {ds us p} e hs ru h => by
    cases q : flD a with
    | none => rw [q] at h; cases h
    | some v =>
      cases q2 : flDs ds with
      | none => rw [q, q2] at h; cases h
      | some vs =>
        rw [q, q2] at h
        obtain ⟨e1, f1⟩ := flD_ok q ra
        obtain ⟨e2, f2⟩ := flDs_ok q2 ru
        subst e1 e2
        exact .seq p _ e hs f1 f2 (Option.some.inj h)
  cases b <;> try cases h
  case tup ds =>
    obtain ⟨p, us, e, t, ru⟩ := relD_tupE rb
    exact sq e (.inr t.sq) ru h
  case ktp ds =>
    obtain ⟨p, us, e, t, ru⟩ := relD_ktpE rb
    exact sq e (.inr t.sq) ru h
  case loc j =>
    obtain ⟨hj, e⟩ := relD_locE rb
    have h : (match S.get j with
      | some (.lst ds) => match flD a, flDs ds with
        | some v, some vs => some (inV v vs)
        | _, _ => match toPt S a, toPs ds with
          | some p, some qs => if SeqAt.shaped p && SeqAt.shaped (.list qs) then some (qs.any fun z => PyData.eqv z p) else none
          | _, _ => none
      | _ => match dGet S j a with
        | some r => some r.isSome
        | none => none) = some k := h
    split at h
    · rename_i ds hj2
      obtain ⟨us, hm, ru⟩ := rs.lst hj2
      split at h
      · rename_i v vs q q2
        exact sq e (.inl (SqL.of hm)) ru (by rw [q, q2]; exact h)
      · split at h
        · rename_i p qs q q2
          by_cases hs : (SeqAt.shaped p && SeqAt.shaped (.list qs)) = true
          · rw [if_pos hs] at h
            simp only [Bool.and_eq_true] at hs
            refine .deep p qs (dpt_of rs ra q) ?_ hs.1 hs.2 (Option.some.inj h)
            rw [e]
            exact .lst (SqL.of hm) (dps_of ds us qs ru q2)
          · rw [if_neg hs] at h
            cases h
        · cases h
    · cases q : dGet S j a with
      | none => rw [q] at h; cases h
      | some r =>
        rw [q] at h
        have z := dGet_ok rs q ra
        cases r with
        | none => exact .dict (m j) none e z (Option.some.inj h)
        | some d =>
          obtain ⟨u, z1, _⟩ := z
          exact .dict (m j) (some u) e z1 (Option.some.inj h)
theorem op_z_in (hK : X.K = W.K) (hu : X.A.units + 65 < cLine) : OpR X (compareOp .In) (rOp W opIn) := by
  intro pins s σ H x y v u Q I rx ry h
  obtain ⟨m, S, a, b, rs, ra, rb, p⟩ := h
  have p : PostO W (RelD W) H m S.n (match inD a b S with
    | some k => some (.bl k, S)
    | none => none) Q := p
  cases q : inD a b S with
  | none => rw [q] at p; exact p.elim
  | some k =>
    rw [q] at p
    have fin : Q (.bl k) H := p.ret rs of_bl
    cases inD_ok rs q ra rb with
    | seq p xs e h1 f fs q =>
      refine op_in_seq pins s σ H x y v u Q I rx ry ⟨p, xs, e, by rw [hK]; exact h1, f, fs, ?_⟩
      rw [q]
      exact fin
    | deep d ds h1 h2 h3 h4 q => exact op_inD hu pins s σ H x y v u Q I rx ry ⟨d, ds, by rw [hK]; exact h1, by rw [hK]; exact h2, h3, h4, by rw [q]; exact fin⟩
    | dict a o e g q =>
      subst e
      obtain rfl : u = Value.ref a := ry
      exact d_in (by omega) I g rx fun s' I' => ⟨.bl o.isSome, H, I', rfl, by rw [q]; exact fin⟩
theorem op_z_notin (hK : X.K = W.K) (hu : X.A.units + 65 < cLine) : OpR X (compareOp .NotIn) (rOp W opNotIn) := by
  intro pins s σ H x y v u Q I rx ry h
  obtain ⟨m, S, a, b, rs, ra, rb, p⟩ := h
  have p : PostO W (RelD W) H m S.n (match inD a b S with
    | some k => some (.bl (!k), S)
    | none => none) Q := p
  cases q : inD a b S with
  | none => rw [q] at p; exact p.elim
  | some k =>
    rw [q] at p
    have fin : Q (.bl (!k)) H := p.ret rs of_bl
    cases inD_ok rs q ra rb with
    | seq p xs e h1 f fs q =>
      refine op_notIn_seq pins s σ H x y v u Q I rx ry ⟨p, xs, e, by rw [hK]; exact h1, f, fs, ?_⟩
      rw [q]
      exact fin
    | deep d ds h1 h2 h3 h4 q => exact op_notInD hu pins s σ H x y v u Q I rx ry ⟨d, ds, by rw [hK]; exact h1, by rw [hK]; exact h2, h3, h4, by rw [q]; exact fin⟩
    | dict a o e g q =>
      subst e
      obtain rfl : u = Value.ref a := ry
      exact d_notIn (by omega) I g rx fun s' I' => ⟨.bl (!o.isSome), H, I', rfl, by rw [q]; exact fin⟩

/-! ### a[i] -/
theorem atI_rel {H : Hp} {m : Nat → Addr} {n : Nat} {ds : List D} {vs : List V} {i : Int} {d : D} (r : RelDs W H m n ds vs) (h : atI ds i = some d) : ∃ v, atI vs i = some v ∧ RelD W H m n d v := by
  unfold atI at h ⊢
  rw [r.len]
  cases q : ixN ds.length i with
  | none => rw [q] at h; cases h
  | some j =>
    rw [q] at h
    exact r.get h
def ixD (ds : List D) (S : Sto) : D → Option (D × Sto)
  | .int i => match atI ds i with
    | some d => some (d, S)
    | none => none
  | _ => none
def ixS (x : Str) (S : Sto) : D → Option (D × Sto)
  | .int i => if x.length ≤ 1000000 then (match atI x.cps.toList i with
    | some c => some (.str ⟨#[c]⟩, S)
    | none => none) else none
  | _ => none
def opIx : Op2
  | .tup ds, y, S => ixD ds S y
  | .ktp ds, y, S => ixD ds S y
  | .sq ds, y, S => ixD ds S y
  | .str x, y, S => ixS x S y
  | .loc k, y, S => match S.get k with
    | some (.lst ds) => ixD ds S y
    | _ => match dGet S k y with
      | some (some d) => some (d, S)
      | _ => none
  | _, _, _ => none
theorem ix_z (hK : X.K = W.K) (hu : X.A.units + 1 < cLine) : IxR X (rOp W opIx) := by
  intro value slice pins s σ H x y v u Q I rx ry h hs
  obtain ⟨m, S, a, b, rs, ra, rb, p⟩ := h
  have seq : ∀ {ds : List D} {vs : List V} {a : Addr}, x = .ref a → (SqL W.K H a vs ∨ SqT W.K H a vs) → RelDs W H m S.n ds vs → PostO W (RelD W) H m S.n (ixD ds S b) Q → wpAny (model X.prog X.w) X.A (subscriptTail value slice v u) (EP X pins σ Q) X.xe s := fun {ds vs a} ex hq r p => by
    clear ‹PostO W (RelD W) H m S.n (opIx _ b S) Q›
    cases b <;> try exact p.elim
    rename_i i
    have ey := relD_int rb
    have p : PostO W (RelD W) H m S.n (match atI ds i with
      | some d => some (d, S)
      | none => none) Q := p
    cases q : atI ds i with
    | none => rw [q] at p; exact p.elim
    | some d =>
      rw [q] at p
      obtain ⟨w, e1, e2⟩ := atI_rel r q
      have fin : Q w H := p.ret rs e2
      rcases hq with hq | hq
      · exact ix_list value slice pins s σ H x y v u Q I rx ry ⟨a, vs, i, w, ex, ey, by rw [hK]; exact hq, e1, fin⟩ hs
      · exact ix_tup value slice pins s σ H x y v u Q I rx ry ⟨a, vs, i, w, ex, ey, by rw [hK]; exact hq, e1, fin⟩ hs
  cases a <;> try exact p.elim
  case tup ds =>
    obtain ⟨a, vs, ea, ta, r⟩ := relD_tupE ra
    exact seq ea (.inr ta.sq) r p
  case ktp ds =>
    obtain ⟨a, vs, ea, ta, r⟩ := relD_ktpE ra
    exact seq ea (.inr ta.sq) r p
  case sq ds =>
    obtain ⟨a, vs, ea, ta, r⟩ := relD_sqE ra
    exact seq ea (.inl ta.sq) r p
  case str z =>
    cases b <;> try exact p.elim
    case int i =>
      have p : PostO W (RelD W) H m S.n (if z.length ≤ 1000000 then (match atI z.cps.toList i with
        | some c => some (.str ⟨#[c]⟩, S)
        | none => none) else none) Q := p
      by_cases hl : z.length ≤ 1000000
      · rw [if_pos hl] at p
        cases q : atI z.cps.toList i with
        | none => rw [q] at p; exact p.elim
        | some c =>
          rw [q] at p
          exact ix_str value slice pins s σ H x y v u Q I rx ry ⟨z, i, c, relD_str ra, relD_int rb, Nat.le_trans hl line1000000, q, p.ret rs of_str⟩ hs
      · rw [if_neg hl] at p
        exact p.elim
  case loc k =>
    obtain ⟨hk, e⟩ := relD_locE ra
    have p : PostO W (RelD W) H m S.n (match S.get k with
      | some (.lst ds) => ixD ds S b
      | _ => match dGet S k b with
        | some (some d) => some (d, S)
        | _ => none) Q := p
    split at p
    · rename_i ds hk2
      obtain ⟨vs, hm, r⟩ := rs.lst hk2
      exact seq e (.inl (SqL.of hm)) r p
    · subst e
      obtain rfl : v = Value.ref (m k) := rx
      split at p
      · rename_i d q
        obtain ⟨w, g, rw'⟩ := dGet_ok rs q rb
        have fin : Q w H := p.ret rs rw'
        exact tail_any (ops := [.ref (m k), u]) (dict_typeIs I g) PySem.F.slot_dict_getitem.lookup (d_getItem hu I g ry fun w' s3 I3 rw' => ⟨w, H, I3, rw', fin⟩) hs
      · exact p.elim
end
end Z
set_option Elab.async false
set_option linter.all false
set_option autoImplicit false
set_option maxRecDepth 100000
/-! Z10: slices, stores, dict displays. -/
namespace Z
open PySem PySem.Spec PyProof.Rows L2

/-! ### slices -/
def cutD (ds : List D) (lo hi : Option Int) : List D := (ds.drop (HT.sIx ds.length 0 lo)).take (HT.sIx ds.length ds.length hi - HT.sIx ds.length 0 lo)
def opSl (x : D) (lo hi : Option Int) (S : Sto) : Option (D × Sto) := match x with
  | .tup ds => some (.tup (cutD ds lo hi), S)
  | .sq ds => some (.loc S.n, S.push (.lst (cutD ds lo hi)))
  | .str z => if z.length ≤ 1000000 then some (.str (cutS z lo hi), S) else none
  | .loc k => match S.get k with
    | some (.lst ds) => some (.loc S.n, S.push (.lst (cutD ds lo hi)))
    | _ => none
  | _ => none
def rSl (W : Wd) : V → Option Int → Option Int → Hp → VK → Prop := fun x lo hi H Q => ∃ m S a, RelS W H m S ∧ RelD W H m S.n a x ∧ PostO W (RelD W) H m S.n (opSl a lo hi S) Q
section
variable {X : Cx} {W : Wd}
theorem cutD_rel {H : Hp} {m : Nat → Addr} {n : Nat} {ds : List D} {vs : List V} (r : RelDs W H m n ds vs) (lo hi : Option Int) : RelDs W H m n (cutD ds lo hi) (cutV vs lo hi) := by
  unfold cutD cutV
  rw [r.len]
  exact relDs_take _ (relDs_drop _ r)
theorem cutD_whole {ds : List D} {lo hi : Option Int} (h : HT.sIx ds.length 0 lo = 0 ∧ HT.sIx ds.length ds.length hi = ds.length) : cutD ds lo hi = ds := by
  unfold cutD
  rw [h.1, h.2]
  simp
theorem sl_z (hK : X.K = W.K) : SlR X (rSl W) := by
  intro pins s σ H x v vl vu lo hi sl Q I rx hs pl pu h
  obtain ⟨m, S, a, rs, ra, p⟩ := h
  cases a <;> try exact p.elim
  case str z =>
    cases relD_str ra
    have p : PostO W (RelD W) H m S.n (if z.length ≤ 1000000 then some (.str (cutS z lo hi), S) else none) Q := p
    by_cases hl : z.length ≤ 1000000
    · rw [if_pos hl] at p
      exact sl_str pins s σ H _ v vl vu lo hi sl Q I rx hs pl pu ⟨z, rfl, Nat.le_trans hl line1000000, p.ret rs of_str⟩
    · rw [if_neg hl] at p
      exact p.elim
  case tup ds =>
    obtain ⟨a, vs, ea, t, r⟩ := relD_tupE ra
    subst ea
    refine sl_tupA pins s σ H _ v vl vu lo hi sl Q I rx hs pl pu ⟨a, vs, rfl, by rw [hK]; exact t.sq, fun hw => ?_, fun _ q hq => p.new rs hq (relD_tup rs hq (cutD_rel r lo hi))⟩
    rw [r.len] at hw
    have p : PostO W (RelD W) H m S.n (some (.tup (cutD ds lo hi), S)) Q := p
    rw [cutD_whole hw] at p
    exact p.ret rs (of_tup t r)
  case sq ds =>
    obtain ⟨a, vs, ea, t, r⟩ := relD_sqE ra
    subst ea
    exact sl_list pins s σ H _ v vl vu lo hi sl Q I rx hs pl pu ⟨_, vs, rfl, by rw [hK]; exact t.sq, fun q hq => p.newS (o := .lst (cutV vs lo hi)) rs hq ⟨_, rfl, cutD_rel r lo hi⟩ relD_loc⟩
  case loc k =>
    obtain ⟨_, ea⟩ := relD_locE ra
    subst ea
    have p : PostO W (RelD W) H m S.n (match S.get k with
      | some (.lst ds) => some (.loc S.n, S.push (.lst (cutD ds lo hi)))
      | _ => none) Q := p
    split at p
    · rename_i ds hk
      obtain ⟨vs, hm, r⟩ := rs.lst hk
      exact sl_list pins s σ H _ v vl vu lo hi sl Q I rx hs pl pu ⟨_, vs, rfl, SqL.of hm, fun q hq => p.newS (o := .lst (cutV vs lo hi)) rs hq ⟨_, rfl, cutD_rel r lo hi⟩ relD_loc⟩
    · exact p.elim
abbrev rPt : Rl (Option Int) (Option Int) := fun _ _ _ a b => a = b
def tP (W : Wd) (E : St → XK) (f : En → Sto → R (Option Int)) : TO := tG W rPt E f
theorem po_imp {e : Option Expr} {t t' : TO} (h : PO X e t) (i : ∀ σ H Q, t' σ H Q → t σ H Q) : PO X e t' := ⟨fun pins s σ H Q I q => h.run pins s σ H Q I (i σ H Q q)⟩
def fNoP : En → Sto → R (Option Int) := fun _ S => .ok none S
def fPart (f : En → Sto → R D) : En → Sto → R (Option Int) := fun env S => (f env S).bind fun d S1 => match d with
  | .int i => .ok (some i) S1
  | _ => .no
variable {E : St → XK} {pos p2 : Pos} {e : Expr} {lo hi : Option Expr} {fa : En → Sto → R D} {fl fh : En → Sto → R (Option Int)}
theorem z_noP : PO X none (tP W E fNoP) := po_imp po_none fun σ H Q h => by
  obtain ⟨env, m, S, h1, h2, h3⟩ := h
  exact h3 H m none Ext.refl h2 rfl
theorem z_part (h : PE X e (tE W E fa)) : PO X (some e) (tP W E (fPart fa)) := po_imp (po_some h) fun σ H Q h => by
  refine (tG.seq (rl := RelD W) (g := fun env d S1 => match d with | .int i => .ok (some i) S1 | _ => .no) h).mono fun x H1 q => ?_
  obtain ⟨env, m, S, d, h1, h2, h3, h4⟩ := q
  cases d <;> try exact h4.elim
  case int i => exact ⟨i, relD_int h3, h4 H1 m _ Ext.refl h2 rfl⟩
def fSl (fa : En → Sto → R D) (fl fh : En → Sto → R (Option Int)) : En → Sto → R D := fun env S => (fa env S).bind fun a S1 => (fl env S1).bind fun l S2 => (fh env S2).bind fun h S3 => R.of (opSl a l h S3)
theorem z_slice (hK : X.K = W.K) (he : PE X e (tE W E fa)) (hl : PO X lo (tP W E fl)) (hh : PO X hi (tP W E fh)) : PE X (.Subscript e (.Slice lo hi none p2) pos) (tE W E (fSl fa fl fh)) := by
  refine pe_imp (pe_slice (sl_z hK) he hl hh) fun σ H Q h => ?_
  refine (tG.seq (rl := RelD W) (g := fun env a S1 => (fl env S1).bind fun l S2 => (fh env S2).bind fun h S3 => R.of (opSl a l h S3)) h).mono fun x H1 q => ?_
  obtain ⟨env, m, S, a, h1, h2, h3, h4⟩ := q
  refine (tG.seq2 (rl := rPt) (rl0 := RelD W) (fun a v e r => RelD.ext e a v r) h1 h2 h3 h4).mono fun l H2 q => ?_
  obtain ⟨m2, S2, l', g1, g2, g3, el, g5⟩ := q
  have el : l' = l := el
  subst el
  refine (tG.seq2 (rl := rPt) (rl0 := RelD W) (f := fh) (fun a v e r => RelD.ext e a v r) g1 g2 g3 g5).mono fun u H3 q => ?_
  obtain ⟨m3, S3, u', k1, k2, k3, eu, k5⟩ := q
  have eu : u' = u := eu
  subst eu
  exact ⟨m3, S3, a, k2, k3, k5.of⟩

/-! ### o[i] = v -/
def putD {κ : Type} [DecidableEq κ] (ps : List (κ × D)) (k : κ) (v : D) : List (κ × D) := if ps.any (fun p => decide (p.1 = k)) then ps.map (fun p => if p.1 = k then (p.1, v) else p) else ps ++ [(k, v)]
def setT (ps : List (List Key × D)) (v : D) (j : Nat) (S : Sto) : D → Option Sto
  | .tup ks => match kysD ks with
    | some k => if ps.length < 1000000 then some (S.set j (.dt (putD ps k v))) else none
    | none => none
  | _ => none
def setL (ds : List D) (v : D) (j : Nat) (S : Sto) : D → Option Sto
  | .int k => match ixN ds.length k with
    | some q => some (S.set j (.lst (ds.set q v)))
    | none => none
  | _ => none
def opSet (o i v : D) (S : Sto) : Option Sto := match o with
  | .loc j => match S.get j with
    | some (.lst ds) => setL ds v j S i
    | some (.dk ps) => match kyD i with
      | some k => if ps.length < 1000000 then some (S.set j (.dk (putD ps k v))) else none
      | none => none
    | some (.dt ps) => setT ps v j S i
    | _ => none
  | _ => none
theorem kvR_len {κ : Type} {H : Hp} {m : Nat → Addr} {n : Nat} : ∀ {ps : List (κ × D)} {vs : List (κ × V)}, KvR W H m n ps vs → vs.length = ps.length
  | [], vs, h => by
    have h : vs = [] := h
    rw [h]; rfl
  | p :: ps, vs, h => by
    obtain ⟨u, us, e, _, r⟩ := h
    rw [e, List.length_cons, List.length_cons, kvR_len r]
theorem kvR_any {κ : Type} {H : Hp} {m : Nat → Addr} {n : Nat} (f : κ → Bool) : ∀ {ps : List (κ × D)} {vs : List (κ × V)}, KvR W H m n ps vs → vs.any (fun p => f p.1) = ps.any fun p => f p.1
  | [], vs, h => by
    have h : vs = [] := h
    rw [h]; rfl
  | p :: ps, vs, h => by
    obtain ⟨u, us, e, _, r⟩ := h
    rw [e, List.any_cons, List.any_cons, kvR_any f r]
theorem kvR_app {κ : Type} {H : Hp} {m : Nat → Addr} {n : Nat} : ∀ {ps qs : List (κ × D)} {vs us : List (κ × V)}, KvR W H m n ps vs → KvR W H m n qs us → KvR W H m n (ps ++ qs) (vs ++ us)
  | [], qs, vs, us, h, r => by
    have h : vs = [] := h
    rw [h]; exact r
  | p :: ps, qs, vs, us, h, r => by
    obtain ⟨u, ws, e, r0, rs⟩ := h
    rw [e]
    exact ⟨u, ws ++ us, rfl, r0, kvR_app rs r⟩
theorem kvR_one {κ : Type} {H : Hp} {m : Nat → Addr} {n : Nat} {k : κ} {d : D} {v : V} (r : RelD W H m n d v) : KvR W H m n [(k, d)] [(k, v)] := ⟨v, [], rfl, r, rfl⟩
theorem kvR_map {κ : Type} [DecidableEq κ] {H : Hp} {m : Nat → Addr} {n : Nat} {k : κ} {d : D} {v : V} (r : RelD W H m n d v) : ∀ {ps : List (κ × D)} {vs : List (κ × V)}, KvR W H m n ps vs →
    KvR W H m n (ps.map fun p => if p.1 = k then (p.1, d) else p) (vs.map fun p => if p.1 = k then (p.1, v) else p)
  | [], vs, h => by
    have h : vs = [] := h
    rw [h]; exact rfl
  | p :: ps, vs, h => by
    obtain ⟨u, us, e, r0, rs⟩ := h
    rw [e, List.map_cons, List.map_cons]
    by_cases q : p.1 = k
    · rw [if_pos q, if_pos q]
      exact ⟨v, _, rfl, r, kvR_map r rs⟩
    · rw [if_neg q, if_neg q]
      exact ⟨u, _, rfl, r0, kvR_map r rs⟩
theorem kvR_put {κ : Type} [DecidableEq κ] {H : Hp} {m : Nat → Addr} {n : Nat} {k : κ} {d : D} {v : V} {ps : List (κ × D)} {vs : List (κ × V)} (h : KvR W H m n ps vs) (r : RelD W H m n d v) : KvR W H m n (putD ps k d) (putK vs k v) := by
  unfold putD putK
  rw [kvR_any (fun j => decide (j = k)) h]
  split
  · exact kvR_map r h
  · exact kvR_app h (kvR_one r)
theorem relDs_set {H : Hp} {m : Nat → Addr} {n : Nat} {d : D} {v : V} (r : RelD W H m n d v) : ∀ {ds : List D} {vs : List V} {j : Nat}, RelDs W H m n ds vs → RelDs W H m n (ds.set j d) (vs.set j v)
  | [], vs, j, h => by
    unfold RelDs at h
    rw [h]
    show RelDs W H m n [] []
    unfold RelDs
    rfl
  | e :: ds, vs, j, h => by
    unfold RelDs at h
    obtain ⟨u, us, e1, r0, rs⟩ := h
    rw [e1]
    cases j with
    | zero =>
      show RelDs W H m n (d :: ds) (v :: us)
      unfold RelDs
      exact ⟨v, us, rfl, r, rs⟩
    | succ j =>
      show RelDs W H m n (e :: ds.set j d) (u :: us.set j v)
      unfold RelDs
      exact ⟨u, _, rfl, r0, relDs_set r rs⟩
/-- behind a store -/
def PostH (W : Wd) (H : Hp) (m : Nat → Addr) (n : Nat) (r : Option Sto) (Q : Hp → Prop) : Prop := match r with
  | some S' => ∀ H', Ext W H m n H' m S'.n → RelS W H' m S' → Q H'
  | none => False
def rSet (W : Wd) : TSet := fun o i v H Q => ∃ m S a b d, RelS W H m S ∧ RelD W H m S.n a o ∧ RelD W H m S.n b i ∧ RelD W H m S.n d v ∧ PostH W H m S.n (opSet a b d S) Q
theorem dk_own {H : Hp} {m : Nat → Addr} {S : Sto} (rs : RelS W H m S) {k : Nat} {ps : List (Key × D)} (h : S.get k = some (.dk ps)) : ∃ vs, H (m k) = some (.dK vs) ∧ KvR W H m S.n ps vs := by
  obtain ⟨o, ho, g, hm, q⟩ := rs.at_ k (Sto.get_lt h)
  rw [h] at g
  cases g
  obtain ⟨vs, e, r⟩ := q
  subst e
  exact ⟨vs, hm, r⟩
theorem dt_own {H : Hp} {m : Nat → Addr} {S : Sto} (rs : RelS W H m S) {k : Nat} {ps : List (List Key × D)} (h : S.get k = some (.dt ps)) : ∃ vs, H (m k) = some (.dT vs) ∧ KvR W H m S.n ps vs := by
  obtain ⟨o, ho, g, hm, q⟩ := rs.at_ k (Sto.get_lt h)
  rw [h] at g
  cases g
  obtain ⟨vs, e, r⟩ := q
  subst e
  exact ⟨vs, hm, r⟩
theorem set_z (hu : X.A.units + 1 < cLine) : PSet X (rSet W) := by
  intro pins s σ H o i v ov iv u Q I ro ri rv h
  obtain ⟨m, S, a, b, d, rs, ra, rb, rd, p⟩ := h
  cases a <;> try exact p.elim
  case loc j =>
    obtain ⟨hj, ea⟩ := relD_locE ra
    unfold opSet at p
    dsimp only at p
    cases q : S.get j with
    | none => rw [q] at p; exact p.elim
    | some ob =>
      rw [q] at p
      cases ob <;> try exact p.elim
      case lst ds =>
        cases b <;> try exact p.elim
        case int k =>
          obtain ⟨vs, hm, r⟩ := rs.lst q
          unfold setL at p
          (try dsimp only at p)
          cases q2 : ixN ds.length k with
          | none => rw [q2] at p; exact p.elim
          | some t =>
            rw [q2] at p
            refine set_list pins s σ H o i v ov iv u Q I ro ri rv ⟨_, vs, k, t, ea, relD_int rb, hm, by rw [r.len]; exact q2, ?_⟩
            have wr : Wr (.lst vs) := trivial
            exact p _ (ext_set rs hj hm wr.nf) (rs.set (b := .lst (ds.set t d)) q hm wr.nt wr.ns ⟨_, rfl, relDs_set rd r⟩)
      case dk ps =>
        obtain ⟨vs, hm, r⟩ := dk_own rs q
        cases q2 : kyD b with
        | none => rw [q2] at p; exact p.elim
        | some k =>
          rw [q2] at p
          (try dsimp only at p)
          by_cases hl : ps.length < 1000000
          · rw [if_pos hl] at p
            have ei := kyD_ok q2 rb
            subst ei
            refine set_dict hu pins s σ H o _ v ov iv u Q I ro ri rv ⟨_, _, ea, DPut.k hm (Nat.lt_of_lt_of_le (by rw [kvR_len r]; exact hl) line1000000), ?_⟩
            have wr : Wr (.dK vs) := trivial
            exact p _ (ext_set rs hj hm wr.nf) (rs.set (b := .dk (putD ps k d)) q hm wr.nt wr.ns ⟨_, rfl, kvR_put r rd⟩)
          · rw [if_neg hl] at p
            exact p.elim
      case dt ps =>
        obtain ⟨vs, hm, r⟩ := dt_own rs q
        cases b <;> try exact p.elim
        case tup ks =>
          obtain ⟨b, us, eb, t, ru⟩ := relD_tupE rb
          unfold setT at p
          (try dsimp only at p)
          cases q2 : kysD ks with
          | none => rw [q2] at p; exact p.elim
          | some k =>
            rw [q2] at p
            (try dsimp only at p)
            by_cases hl : ps.length < 1000000
            · rw [if_pos hl] at p
              have ei := kysD_ok q2 ru
              subst ei eb
              refine set_dict hu pins s σ H o _ v ov iv u Q I ro ri rv ⟨_, _, ea, DPut.t hm t.1 (Nat.lt_of_lt_of_le (by rw [kvR_len r]; exact hl) line1000000), ?_⟩
              have wr : Wr (.dT vs) := trivial
              exact p _ (ext_set rs hj hm wr.nf) (rs.set (b := .dt (putD ps k d)) q hm wr.nt wr.ns ⟨_, rfl, kvR_put r rd⟩)
            · rw [if_neg hl] at p
              exact p.elim
/-- o[i] = v -/
def gSetS (fv fo fi : En → Sto → R D) : En → Sto → RS := fun env S => (fv env S).st env fun v S1 => (fo env S1).st env fun o S2 => (fi env S2).st env fun i S3 => match opSet o i v S3 with
  | some S4 => .ok (.nx env) S4
  | none => .no
/-- the first part of a statement runs, what it gave kept -/
theorem tS.run2 {α β α0 β0 : Type} {rl : Rl α β} {rl0 : Rl α0 β0} (mo : ∀ {H m n H' m' n'} a v, Ext W H m n H' m' n' → rl0 H m n a v → rl0 H' m' n' a v) {D0 : Ends} {f : En → Sto → R α} {g : α → Sto → RS} {σ : St} {H : Hp} {env : En} {m : Nat → Addr} {S : Sto} {a0 : α0} {v0 : β0}
    (h1 : RelEn W H m S.n env σ) (h2 : RelS W H m S) (h0 : rl0 H m S.n a0 v0) (h : PostS W E D0 H m S.n ((f env S).st env g)) :
    tG W rl E f σ H fun v H1 => ∃ m S a, RelEn W H1 m S.n env σ ∧ RelS W H1 m S ∧ rl0 H1 m S.n a0 v0 ∧ rl H1 m S.n a v ∧ PostS W E D0 H1 m S.n (g a S) := by
  refine ⟨env, m, S, h1, h2, (R.st_run (rl := rl) h1 h).mono fun v H1 q => ?_⟩
  obtain ⟨m1, S1, a, e, g1, g2, g3, g4⟩ := q
  exact ⟨m1, S1, a, g1, g2, mo _ _ e h0, g3, g4⟩
def rl2 {α β γ δ : Type} (r : Rl α β) (s : Rl γ δ) : Rl (α × γ) (β × δ) := fun H m n a b => r H m n a.1 b.1 ∧ s H m n a.2 b.2
theorem z_setS {value o i : Expr} {pos' : Pos} {fv fo fi : En → Sto → R D} (hu : X.A.units + 1 < cLine) (hv : PE X value (tE W E fv)) (ho : PE X o (tE W E fo)) (hi : PE X i (tE W E fi)) (ha : ∀ v, assign (.Subscript o i pos') X.env v = (do
      let ov ← holding [v] (eval o X.env)
      let iv ← holding [v, ov] (eval i X.env)
      standAt pos'
      holding [v, ov, iv] (setItem ov iv v)
      release [v, ov, iv] [])) (hs : swapsWithSole [.Subscript o i pos'] value pos.line X.env = pure false) (hw : swappedStores [.Subscript o i pos'] value X.env = pure none) (h1 : (assignEach [.Subscript o i pos'] X.env).map (·.2) = [assign (.Subscript o i pos') X.env]) :
    PS X (.Assign [.Subscript o i pos'] value pos) (tS W E (gSetS fv fo fi)) := by
  refine ps_imp (ps_asg hv (pg_sub ho hi (set_z (W := W) hu) ha) hs hw h1) fun D0 σ H h => ?_
  refine (tS.run (rl := RelD W) (g := fun env v S1 => (fo env S1).st env fun o S2 => (fi env S2).st env fun i S3 => match opSet o i v S3 with
    | some S4 => .ok (.nx env) S4
    | none => .no) h).mono fun v H1 q => ?_
  obtain ⟨env, m, S, d, g1, g2, g3, g4⟩ := q
  refine (tS.run2 (rl := RelD W) (rl0 := RelD W) (fun a v e r => RelD.ext e a v r) g1 g2 g3 g4).mono fun ov H2 q => ?_
  obtain ⟨m2, S2, o2, k1, k2, k3, k4, k5⟩ := q
  refine (tS.run2 (rl := RelD W) (rl0 := rl2 (RelD W) (RelD W)) (f := fi) (fun a v e r => ⟨RelD.ext e _ _ r.1, RelD.ext e _ _ r.2⟩) (a0 := (d, o2)) (v0 := (v, ov)) k1 k2 ⟨k3, k4⟩ k5).mono fun iv H3 q => ?_
  obtain ⟨m3, S3, i3, j1, j2, ⟨j3, j4⟩, j5, j6⟩ := q
  refine ⟨m3, S3, o2, i3, d, j2, j4, j5, j3, ?_⟩
  cases q : opSet o2 i3 d S3 with
  | none =>
    have j6 : PostS W E D0 H3 m3 S3.n (match opSet o2 i3 d S3 with
      | some S4 => .ok (.nx env) S4
      | none => .no) := j6
    rw [q] at j6
    exact j6.elim
  | some S4 =>
    have j6 : PostS W E D0 H3 m3 S3.n (match opSet o2 i3 d S3 with
      | some S4 => .ok (.nx env) S4
      | none => .no) := j6
    rw [q] at j6
    exact fun H4 e rs => j6 H4 m3 σ e rs (j1.ext e)

/-! ### displays of dicts -/
def fNewK : En → Sto → R D := fun _ S => .ok (.loc S.n) (S.push (.dk []))
def fNewT : En → Sto → R D := fun _ S => .ok (.loc S.n) (S.push (.dt []))
theorem z_newK : PE X (.Dict [] [] pos) (tE W E fNewK) := pe_imp pe_dnewK fun σ H Q h p hp => by
  obtain ⟨env, m, S, h1, h2, h3⟩ := h
  exact h3 _ _ _ (ext_push hp) (h2.push hp ⟨[], rfl, rfl⟩) relD_loc
theorem z_newT : PE X (.Dict [] [] pos) (tE W E fNewT) := pe_imp pe_dnewT fun σ H Q h p hp => by
  obtain ⟨env, m, S, h1, h2, h3⟩ := h
  exact h3 _ _ _ (ext_push hp) (h2.push hp ⟨[], rfl, rfl⟩) relD_loc
end
end Z
set_option Elab.async false
set_option linter.all false
set_option autoImplicit false
set_option maxRecDepth 100000
/-! Z11: dict displays. -/
namespace Z
open PySem PySem.Spec PyProof.Rows L2

abbrev FE := En → Sto → R D
def RelPs (W : Wd) (H : Hp) (m : Nat → Addr) (n : Nat) : List (D × D) → List (V × V) → Prop
  | [], vs => vs = []
  | p :: ps, vs => ∃ u w us, vs = (u, w) :: us ∧ RelD W H m n p.1 u ∧ RelD W H m n p.2 w ∧ RelPs W H m n ps us
theorem R.bind_bind {α β γ : Type} {r : R α} {f : α → Sto → R β} {g : β → Sto → R γ} : (r.bind f).bind g = r.bind fun a S => (f a S).bind g := by
  cases r <;> rfl
def fPairs : List (FE × FE) → En → Sto → R (List (D × D))
  | [], _, S => .ok [] S
  | p :: ps, env, S => (p.1 env S).bind fun k S1 => (p.2 env S1).bind fun v S2 => (fPairs ps env S2).bind fun r S3 => .ok ((k, v) :: r) S3
def trsOf (W : Wd) (E : St → XK) (fs : List (FE × FE)) : List (TE × TE) := fs.map fun p => (tE W E p.1, tE W E p.2)
def keysP : List (D × D) → Option (List (Key × D))
  | [] => some []
  | (k, v) :: ps => match kyD k with
    | some q => match keysP ps with
      | some r => some ((q, v) :: r)
      | none => none
    | none => none
def mergeD (kvs more : List (Key × D)) : List (Key × D) := more.foldl (fun acc kv => putD acc kv.1 kv.2) kvs
def fDisp (fs : List (FE × FE)) : FE := fun env S => (fPairs fs env (S.push (.dk []))).bind fun ps S2 => match S2.get S.n with
  | some (.dk []) => match keysP ps with
    | some kvs => if kvs.length ≤ 15 then .ok (.loc S.n) (S2.set S.n (.dk (mergeD [] kvs))) else .no
    | none => .no
  | _ => .no
section
variable {X : Cx} {W : Wd} {E : St → XK} {pos : Pos}
theorem relPs_ext {H H' : Hp} {m m' : Nat → Addr} {n n' : Nat} (e : Ext W H m n H' m' n') : ∀ {ps : List (D × D)} {vs : List (V × V)}, RelPs W H m n ps vs → RelPs W H' m' n' ps vs
  | [], _, h => h
  | p :: ps, _, h => by
    obtain ⟨u, w, us, e1, r1, r2, rs⟩ := h
    exact ⟨u, w, us, e1, RelD.ext e _ _ r1, RelD.ext e _ _ r2, relPs_ext e rs⟩
/-- what the pairs give, as one reading -/
theorem fPairs_read {γ δ : Type} {rl2 : Rl γ δ} : ∀ (fs : List (FE × FE)) {g : List (D × D) → Sto → R γ} {σ : St} {H : Hp} {Q : δ → Hp → Prop} {env : En} {m0 : Nat → Addr} {n0 : Nat} {H0 : Hp} {m : Nat → Addr} {S : Sto}, Ext W H0 m0 n0 H m S.n → RelEn W H m S.n env σ → RelS W H m S →
    PostG W rl2 (E σ) H m S.n ((fPairs fs env S).bind g) Q → tPairs (trsOf W E fs) σ H fun vs H1 => ∃ m1 S1 ps, Ext W H0 m0 n0 H1 m1 S1.n ∧ RelEn W H1 m1 S1.n env σ ∧ RelS W H1 m1 S1 ∧ RelPs W H1 m1 S1.n ps vs ∧ PostG W rl2 (E σ) H1 m1 S1.n (g ps S1) Q
  | [], g, σ, H, Q, env, m0, n0, H0, m, S, e, h1, h2, p => ⟨m, S, [], e, h1, h2, rfl, p⟩
  | f :: fs, g, σ, H, Q, env, m0, n0, H0, m, S, e, h1, h2, p => by
    have p : PostG W rl2 (E σ) H m S.n ((f.1 env S).bind fun k S1 => (f.2 env S1).bind fun v S2 => ((fPairs fs env S2).bind fun r S3 => R.ok ((k, v) :: r) S3).bind g) Q := by
      have q : ((fPairs (f :: fs) env S).bind g) = ((f.1 env S).bind fun k S1 => (f.2 env S1).bind fun v S2 => ((fPairs fs env S2).bind fun r S3 => R.ok ((k, v) :: r) S3).bind g) := by
        show (((f.1 env S).bind fun k S1 => (f.2 env S1).bind fun v S2 => (fPairs fs env S2).bind fun r S3 => R.ok ((k, v) :: r) S3).bind g) = _
        simp only [R.bind_bind]
      rw [← q]
      exact p
    refine (show tE W E f.1 σ H _ from ⟨env, m, S, h1, h2, (p.bind (rl := RelD W)).mono fun k H1 q => ?_⟩)
    obtain ⟨m1, S1, k', e1, rs1, rk, p1⟩ := q
    refine (show tE W E f.2 σ H1 _ from ⟨env, m1, S1, h1.ext e1, rs1, (p1.bind (rl := RelD W)).mono fun v H2 q => ?_⟩)
    obtain ⟨m2, S2, v', e2, rs2, rv, p2⟩ := q
    have p2 : PostG W rl2 (E σ) H2 m2 S2.n ((fPairs fs env S2).bind fun r S3 => g ((k', v') :: r) S3) Q := by
      have q : (((fPairs fs env S2).bind fun r S3 => R.ok ((k', v') :: r) S3).bind g) = ((fPairs fs env S2).bind fun r S3 => g ((k', v') :: r) S3) := by
        cases fPairs fs env S2 <;> rfl
      rw [← q]
      exact p2
    have z := fPairs_read fs (((e.trans e1).trans e2)) ((h1.ext e1).ext e2) rs2 p2
    -- the first pair, kept
    have z2 : tPairs (trsOf W E fs) σ H2 fun vs H3 => ∃ m3 S3 ps, Ext W H2 m2 S2.n H3 m3 S3.n ∧ RelEn W H3 m3 S3.n env σ ∧ RelS W H3 m3 S3 ∧ RelPs W H3 m3 S3.n ps vs ∧ PostG W rl2 (E σ) H3 m3 S3.n (g ((k', v') :: ps) S3) Q := fPairs_read fs Ext.refl ((h1.ext e1).ext e2) rs2 p2
    refine tPairs_mono (fun vs H3 q => ?_) _ _ _ z2
    obtain ⟨m3, S3, ps, e3, en3, rs3, rp3, p3⟩ := q
    exact ⟨m3, S3, (k', v') :: ps, ((e.trans e1).trans e2).trans e3, en3, rs3, ⟨k, v, vs, rfl, RelD.ext (e2.trans e3) _ _ rk, RelD.ext e3 _ _ rv, rp3⟩, p3⟩
where
  tPairs_mono {Q Q' : List (V × V) → Hp → Prop} (h : ∀ vs H, Q vs H → Q' vs H) : ∀ (trs : List (FE × FE)) (σ : St) (H : Hp), tPairs (trsOf W E trs) σ H Q → tPairs (trsOf W E trs) σ H Q' := by
    intro trs
    induction trs generalizing Q Q' with
    | nil => exact fun σ H q => h _ _ q
    | cons f fs ih =>
      intro σ H q
      have q : tE W E f.1 σ H fun x H1 => tE W E f.2 σ H1 fun y H2 => tPairs (trsOf W E fs) σ H2 fun ps H3 => Q ((x, y) :: ps) H3 := q
      exact tG.mono q fun x H1 q1 => tG.mono q1 fun y H2 q2 => ih (fun vs H3 q3 => h _ _ q3) σ H2 q2
theorem keysP_ok {H : Hp} {m : Nat → Addr} {n : Nat} : ∀ {ps : List (D × D)} {vs : List (V × V)} {kvs : List (Key × D)}, RelPs W H m n ps vs → keysP ps = some kvs → ∃ us : List (Key × V), vs = us.map (fun kv => (kV kv.1, kv.2)) ∧ KvR W H m n kvs us ∧ us.length = kvs.length
  | [], vs, kvs, h, e => by
    have h : vs = [] := h
    cases e
    exact ⟨[], h, rfl, rfl⟩
  | (k, v) :: ps, vs, kvs, h, e => by
    obtain ⟨u, w, us, e1, r1, r2, rs⟩ := h
    have e : (match kyD k with
      | some q => match keysP ps with
        | some r => some ((q, v) :: r)
        | none => none
      | none => none) = some kvs := e
    cases q : kyD k with
    | none => rw [q] at e; cases e
    | some ky =>
      rw [q] at e
      have e : (match keysP ps with
        | some r => some ((ky, v) :: r)
        | none => none) = some kvs := e
      cases q2 : keysP ps with
      | none => rw [q2] at e; cases e
      | some r =>
        rw [q2] at e
        cases e
        obtain ⟨ws, a1, a2, a3⟩ := keysP_ok rs q2
        have eu := kyD_ok q r1
        exact ⟨(ky, w) :: ws, by rw [e1, a1, eu, List.map_cons], ⟨w, ws, rfl, r2, a2⟩, by rw [List.length_cons, List.length_cons, a3]⟩
theorem kvR_merge {H : Hp} {m : Nat → Addr} {n : Nat} : ∀ {more : List (Key × D)} {us : List (Key × V)} {ps : List (Key × D)} {vs : List (Key × V)}, KvR W H m n more us → KvR W H m n ps vs → KvR W H m n (mergeD ps more) (mergeK vs us)
  | [], us, ps, vs, h, r => by
    have h : us = [] := h
    subst h
    exact r
  | p :: more, us, ps, vs, h, r => by
    obtain ⟨u, ws, e, r0, rs⟩ := h
    subst e
    show KvR W H m n (mergeD (putD ps p.1 p.2) more) (mergeK (putK vs p.1 u) ws)
    exact kvR_merge rs (kvR_put r r0)
theorem z_disp {keys : List (Option Expr)} {values : List Expr} {fs : List (FE × FE)} (h : PPs X pos keys values (trsOf W E fs)) (hall : keys.all (·.isSome) = true) (hl : keys.length = values.length) (h0 : keys ≠ []) (h15 : keys.length ≤ 15) : PE X (.Dict keys values pos) (tE W E (fDisp fs)) := by
  refine pe_imp (pe_disp h hall hl h0 h15) fun σ H Q h p hp => ?_
  obtain ⟨env, m, S, h1, h2, h3⟩ := h
  have eP : Ext W H m S.n (upd H p (.dK [])) (mPush m S.n p) (S.n + 1) := ext_push hp
  have z := fPairs_read (rl2 := RelD W) (E := E) fs (S := S.push (.dk [])) (Ext.refl (m := mPush m S.n p) (n := S.n + 1)) (h1.ext eP) (h2.push hp ⟨[], rfl, rfl⟩) (PostG.ext eP h3)
  refine fPairs_read.tPairs_mono (fun vs H2 q => ?_) _ _ _ z
  obtain ⟨m2, S2, ps, e2, en2, rs2, rp2, p2⟩ := q
  have hk : S.n < S2.n := Nat.lt_of_lt_of_le (Nat.lt_succ_self _) e2.le
  have mk : m2 S.n = p := (e2.same _ (Nat.lt_succ_self _)).trans mPush_eq
  have p2 : PostG W (RelD W) (E σ) H2 m2 S2.n (match S2.get S.n with
    | some (.dk []) => match keysP ps with
      | some kvs => if kvs.length ≤ 15 then .ok (.loc S.n) (S2.set S.n (.dk (mergeD [] kvs))) else .no
      | none => .no
    | _ => .no) Q := p2
  split at p2
  · rename_i g
    cases q2 : keysP ps with
    | none => rw [q2] at p2; exact p2.elim
    | some kvs =>
      rw [q2] at p2
      dsimp only at p2
      by_cases hl : kvs.length ≤ 15
      · rw [if_pos hl] at p2
        obtain ⟨ws, hm, kv⟩ := dk_own rs2 g
        have kv : ws = [] := kv
        subst kv
        obtain ⟨us, eu, ru, lu⟩ := keysP_ok rp2 q2
        have wr : Wr (.dK []) := trivial
        have ex := ext_set (o := .dK (mergeK [] us)) rs2 hk hm wr.nf
        have rx := rs2.set (b := .dk (mergeD [] kvs)) (o := .dK (mergeK [] us)) g hm wr.nt wr.ns ⟨_, rfl, kvR_merge ru rfl⟩
        rw [mk] at hm ex rx
        exact ⟨hm, us, eu, by rw [lu]; exact hl, p2 _ m2 _ ex rx (by rw [← mk]; exact of_loc hk)⟩
      · rw [if_neg hl] at p2
        exact p2.elim
  · exact p2.elim
theorem z_ppnil : PPs X pos [] [] (trsOf W E []) := pps_nil
theorem z_ppcons {k v : Expr} {ks : List (Option Expr)} {vs : List Expr} {fk fv : FE} {fs : List (FE × FE)} (hk : PE X k (tE W E fk)) (hv : PE X v (tE W E fv)) (hr : PPs X pos ks vs (trsOf W E fs)) : PPs X pos (some k :: ks) (v :: vs) (trsOf W E ((fk, fv) :: fs)) := pps_cons hk hv hr

/-! ### {a tuple: v} -/
def tDispT (tk tv : TE) : TE := fun σ H Q => ∀ p, H p = none → tk σ (upd H p (.dT [])) fun x H1 => tv σ H1 fun y H2 => H2 p = some (.dT []) ∧ ∃ (k : List Key) (b : Addr), x = .ref b ∧ H2 b = some (.tup (k.map kV)) ∧ Q (.ref p) (upd H2 p (.dT [(k, y)]))
theorem pe_dispT {k v : Expr} {tk tv : TE} (hu : X.A.units + 1 < cLine) (hk : PE X k tk) (hv : PE X v tv) : PE X (.Dict [some k] [v] pos) (tDispT tk tv) := by
  refine ⟨fun pins s σ H Q I q => ?_⟩
  have hn := I.hok.fresh (Nat.le_refl s.heap.objs.size)
  have I1 := I.laid (a := s.heap.objs.size) (o := .dT []) (h' := s.heap.push { cls := .type "dict", data := .dict #[] }) (t' := s.toks) (fun _ _ q => Heap.get?_push_of_some _ q) (Nat.le_refl _) (dt_empty s.heap I.big)
  rw [arm_eval_Dict, zip_pairTrees [some k] [v] X.env pos rfl rfl, dictDisplay_pairs _ (fun z => by cases z) (by show 1 < 17; decide)]
  refine wpAny_bind (wpAny_standAt (wpAny_bind ?_))
  unfold subDict
  refine wpAny_bind (wpAny_alloc (wpAny_bind (wpAny_holding ?_)))
  rw [if_pos (show (pairTrees [some k] [v] X.env pos).length ≤ 15 from by show 1 ≤ 15; decide)]
  refine wpAny_bind (pairTrees_cons_walk (thn (hk.run pins _ σ _ _ I1 (q _ hn)) fun u s1 ⟨x, H1, J1, rx, q1⟩ => thn (hv.run pins s1 σ H1 _ J1 q1) fun w2 s2 ⟨y, H2, J2, ry, q2⟩ => pairTrees_nil_walk ?_))
  obtain ⟨hp, ks, b, ex, hb, q2⟩ := q2
  subst ex
  obtain rfl : u = Value.ref b := rx
  refine wpAny_holding ?_
  rw [List.forIn_cons]
  obtain ⟨z, hd, xs, rel, dd⟩ := dt_of J2.hok hp
  cases rel
  refine wpAny_bind (wpAny_bind (wpAny_bind (wpAny_dictSet_heap (knd := tupleKind (mixKind X.prog X.w)) (hsz := Nat.zero_le _) ?_ (key_of J2.hok hb) dd fun h' dd' hs => wpAny_pure ?_)))
  · show X.A.units < cLine
    omega
  · show wpAny _ _ (forIn ([] : List (Value × Value)) PUnit.unit _) _ _ _
    rw [List.forIn_nil]
    refine wpAny_pure (wpAny_pure (wpAny_pure (wpAny_pure ?_)))
    refine ⟨.ref s.heap.objs.size, _, ?_, rfl, q2⟩
    obtain ⟨o', es, ep, hq, h2, h3, h4, _, h5⟩ := dd'
    have rel' : KT H2 (putK [] ks y) (storedH [] ks b w2) := KT.put (H := H2) (kvs := []) (xs := []) .nil ks hb ry
    refine d_write J2 (by rw [hp]; exact True.intro) hs ⟨o', hq⟩ ⟨by rw [sizeLine_eq]; show 1 ≤ _; omega, hd, _, rel'.keeps fun c ys ec => ?_, o', es, ep, hq, h2, h3, h4, h5⟩
    rw [upd_ne (ne_of ec hp (fun z => nomatch z))]
    exact ec
def keyT : D → Option (List Key)
  | .tup ds => kysD ds
  | _ => none
def endT (n : Nat) (S2 : Sto) (k : Option (List Key)) (v : D) : R D := match S2.get n with
  | some (.dt []) => match k with
    | some ks => .ok (.loc n) (S2.set n (.dt [(ks, v)]))
    | none => .no
  | _ => .no
def fDispT (fk fv : FE) : FE := fun env S => (fk env (S.push (.dt []))).bind fun k S1 => (fv env S1).bind fun v S2 => endT S.n S2 (keyT k) v
theorem z_dispT {k v : Expr} {fk fv : FE} (hu : X.A.units + 1 < cLine) (hk : PE X k (tE W E fk)) (hv : PE X v (tE W E fv)) : PE X (.Dict [some k] [v] pos) (tE W E (fDispT fk fv)) := by
  refine pe_imp (pe_dispT hu hk hv) fun σ H Q h p hp => ?_
  obtain ⟨env, m, S, h1, h2, h3⟩ := h
  have eP : Ext W H m S.n (upd H p (.dT [])) (mPush m S.n p) (S.n + 1) := ext_push hp
  refine (show tE W E fk σ _ _ from ⟨env, _, S.push (.dt []), h1.ext eP, h2.push hp ⟨[], rfl, rfl⟩, ((PostG.ext eP h3).bind (rl := RelD W)).mono fun x H1 q => ?_⟩)
  obtain ⟨m1, S1, a, e1, rs1, ra, p1⟩ := q
  refine (show tE W E fv σ _ _ from ⟨env, m1, S1, (h1.ext eP).ext e1, rs1, (p1.bind (rl := RelD W)).mono fun y H2 q => ?_⟩)
  obtain ⟨m2, S2, d, e2, rs2, rd, p2⟩ := q
  have e3 := e1.trans e2
  have hk : S.n < S2.n := Nat.lt_of_lt_of_le (Nat.lt_succ_self _) e3.le
  have mk : m2 S.n = p := (e3.same _ (Nat.lt_succ_self _)).trans mPush_eq
  have ra := RelD.ext e2 _ _ ra
  cases q2 : keyT a with
  | none =>
    rw [q2] at p2
    unfold endT at p2
    split at p2 <;> exact p2.elim
  | some ks =>
    rw [q2] at p2
    unfold endT at p2
    split at p2
    · rename_i g
      cases a <;> try cases q2
      rename_i ds
      obtain ⟨b, us, eb, t, ru⟩ := relD_tupE ra
      obtain ⟨ws, hm, kv⟩ := dt_own rs2 g
      have kv : ws = [] := kv
      subst kv
      have eu := kysD_ok q2 ru
      subst eu
      have wr : Wr (.dT []) := trivial
      have ex := ext_set (o := .dT [(ks, y)]) rs2 hk hm wr.nf
      have rx := rs2.set (b := .dt [(ks, d)]) (o := .dT [(ks, y)]) g hm wr.nt wr.ns ⟨_, rfl, kvR_one rd⟩
      rw [mk] at hm ex rx
      exact ⟨hm, ks, b, eb, t.1, p2 _ m2 _ ex rx (by rw [← mk]; exact of_loc hk)⟩
    · exact p2.elim
end
end Z
set_option Elab.async false
set_option linter.all false
set_option autoImplicit false
set_option maxRecDepth 100000
/-! Z12: what is walked. -/
namespace Z
open PySem PySem.Spec PyProof.Rows L2

section
variable {X : Cx} {W : Wd} {E : St → XK} {pos : Pos} {tg e : Expr}
theorem pi_imp {t t' : TI} (h : PI X tg e t) (i : ∀ σ H R, t' σ H R → t σ H R) : PI X tg e t' := ⟨fun pins s σ H R I q => h.run pins s σ H R I (i σ H R q)⟩
theorem pi_or {t t' : TI} (h : PI X tg e t) (h' : PI X tg e t') : PI X tg e (fun σ H R => t σ H R ∨ t' σ H R) := ⟨fun pins s σ H R I q => by
  rcases q with q | q
  · exact h.run pins s σ H R I q
  · exact h'.run pins s σ H R I q⟩
/-- what a list of items gives turn by turn -/
def nxL (ds : List D) : Nx := fun i _ => match ds[i]? with
  | some d => some (some d)
  | none => some none
def nxS (k : Nat) : Nx := fun i S => match S.get k with
  | some (.lst ds) => nxL ds i S
  | _ => none
def chD (x : Str) : List D := x.cps.toList.map fun c => D.str ⟨#[c]⟩
def kD : Key → D
  | .inl i => .int i
  | .inr x => .str x
def nxK (k : Nat) (ps : List (Key × D)) : Nx := fun i S => match S.get k with
  | some (.fz (.dk _)) => nxL (ps.map fun p => kD p.1) i S
  | _ => none
def nxT (k : Nat) (ps : List (List Key × D)) : Nx := fun i S => match S.get k with
  | some (.fz (.dt _)) => nxL (ps.map fun p => .tup (p.1.map kD)) i S
  | _ => none
/-- what walks a value -/
def walkD (d : D) (S : Sto) : Option Nx := match d with
  | .tup ds => some (nxL ds)
  | .ktp ds => some (nxL ds)
  | .sq ds => some (nxL ds)
  | .str x => some (nxL (chD x))
  | .loc k => match S.get k with
    | some (.lst _) => some (nxS k)
    | some (.fz (.dk ps)) => some (nxK k ps)
    | some (.fz (.dt ps)) => some (nxT k ps)
    | _ => none
  | _ => none
def fIter (f : FE) : En → Sto → R Nx := fun env S => (f env S).bind fun d S1 => match walkD d S1 with
  | some nx => .ok nx S1
  | none => .no
theorem get_len {α β : Type} {xs : List α} {ys : List β} (h : ys.length = xs.length) {i : Nat} (e : xs[i]? = none) : ys.length ≤ i := by
  rw [h]
  exact List.getElem?_eq_none_iff.mp e
/-- a sequence that stays -/
theorem rlI_seq {H0 : Hp} {m0 : Nat → Addr} {n0 : Nat} {ds : List D} {vs : List V} {J : It} (r : RelDs W H0 m0 n0 ds vs) (hg : ∀ i H m n v, Ext W H0 m0 n0 H m n → vs[i]? = some v → J.go i H ∧ ∀ x H', J.yld i H x H' → H' = H ∧ x = v) (hs : ∀ i H m n, Ext W H0 m0 n0 H m n → vs.length ≤ i → J.stop i H) : rlI W H0 m0 n0 (nxL ds) J := by
  intro i H m S e rs
  unfold nxL
  cases q : ds[i]? with
  | none => exact hs i H m S.n e (get_len r.len q)
  | some d =>
    obtain ⟨v, h1, h2⟩ := r.get q
    obtain ⟨g1, g2⟩ := hg i H m S.n v e h1
    refine ⟨g1, fun x H' y => ?_⟩
    obtain ⟨e1, e2⟩ := g2 x H' y
    subst e1 e2
    exact ⟨Ext.refl, rs, RelD.ext e _ _ h2⟩
theorem rlI_tup {H0 : Hp} {m0 : Nat → Addr} {n0 : Nat} {a : Addr} {ds : List D} {vs : List V} (t : TupAt W.K H0 m0 n0 a vs) (r : RelDs W H0 m0 n0 ds vs) : rlI W H0 m0 n0 (nxL ds) (Itt W.K a) :=
  rlI_seq r (fun i H m n v e h => ⟨⟨vs, v, (t.ext e).sq, h⟩, fun x H' y => ⟨y.1, by have z := y.2 vs (t.ext e).sq; rw [h] at z; exact (Option.some.inj z).symm⟩⟩) (fun i H m n e h => ⟨vs, (t.ext e).sq, h⟩)
theorem rlI_ktp {H0 : Hp} {m0 : Nat → Addr} {n0 : Nat} {a : Addr} {ds : List D} {vs : List V} (t : KTup W.K a vs) (r : RelDs W H0 m0 n0 ds vs) : rlI W H0 m0 n0 (nxL ds) (Itt W.K a) :=
  rlI_seq r (fun i H m n v e h => ⟨⟨vs, v, t.sq, h⟩, fun x H' y => ⟨y.1, by have z := y.2 vs t.sq; rw [h] at z; exact (Option.some.inj z).symm⟩⟩) (fun i H m n e h => ⟨vs, t.sq, h⟩)
theorem rlI_sq {H0 : Hp} {m0 : Nat → Addr} {n0 : Nat} {a : Addr} {ds : List D} {vs : List V} (t : FixL W.K H0 m0 n0 a vs) (r : RelDs W H0 m0 n0 ds vs) : rlI W H0 m0 n0 (nxL ds) (Itl W.K a) :=
  rlI_seq r (fun i H m n v e h => ⟨⟨vs, v, (t.ext e).sq, h⟩, fun x H' y => ⟨y.1, by have z := y.2 vs (t.ext e).sq; rw [h] at z; exact (Option.some.inj z).symm⟩⟩) (fun i H m n e h => ⟨vs, (t.ext e).sq, h⟩)
theorem rlI_lst {H0 : Hp} {m0 : Nat → Addr} {n0 : Nat} {k : Nat} (hk : k < n0) : rlI W H0 m0 n0 (nxS k) (Itl W.K (m0 k)) := by
  intro i H m S e rs
  unfold nxS
  have em : m k = m0 k := e.same k hk
  cases q : S.get k with
  | none => trivial
  | some o =>
    cases o <;> try trivial
    case lst ds =>
      obtain ⟨vs, hm, r⟩ := rs.lst q
      rw [em] at hm
      show match nxL ds i S with
        | some (some d) => (Itl W.K (m0 k)).go i H ∧ ∀ x H', (Itl W.K (m0 k)).yld i H x H' → Ext W H m S.n H' m S.n ∧ RelS W H' m S ∧ RelD W H' m S.n d x
        | some none => (Itl W.K (m0 k)).stop i H
        | none => True
      unfold nxL
      cases q2 : ds[i]? with
      | none => exact ⟨vs, SqL.of hm, get_len r.len q2⟩
      | some d =>
        obtain ⟨v, h1, h2⟩ := r.get q2
        refine ⟨⟨vs, v, SqL.of hm, h1⟩, fun x H' y => ?_⟩
        have z := y.2 vs (SqL.of hm)
        rw [h1] at z
        cases z
        have e1 : H' = H := y.1
        subst e1
        exact ⟨Ext.refl, rs, h2⟩
theorem chD_rel {H : Hp} {m : Nat → Addr} {n : Nat} : ∀ (l : List Nat), RelDs W H m n (l.map fun c => D.str ⟨#[c]⟩) (l.map fun c => V.str ⟨#[c]⟩)
  | [] => by
    show RelDs W H m n [] []
    unfold RelDs
    rfl
  | c :: l => by
    show RelDs W H m n (D.str ⟨#[c]⟩ :: l.map fun c => D.str ⟨#[c]⟩) (V.str ⟨#[c]⟩ :: l.map fun c => V.str ⟨#[c]⟩)
    unfold RelDs
    exact ⟨_, _, rfl, of_str, chD_rel l⟩
theorem rlI_str {H0 : Hp} {m0 : Nat → Addr} {n0 : Nat} {x : Str} : rlI W H0 m0 n0 (nxL (chD x)) (Its x) :=
  rlI_seq (vs := x.cps.toList.map fun c => V.str ⟨#[c]⟩) (chD_rel _) (fun i H m n v e h => by
    have hi : i < x.cps.size := by
      have z := (List.getElem?_eq_some_iff.mp h).1
      simpa using z
    refine ⟨hi, fun y H' q => ?_⟩
    obtain ⟨e1, c, e2, e3⟩ := q
    refine ⟨e1, ?_⟩
    rw [List.getElem?_map, Array.getElem?_toList, e2] at h
    rw [e3]
    exact Option.some.inj h) (fun i H m n e h => by
    have h : (x.cps.toList.map fun c => V.str ⟨#[c]⟩).length ≤ i := h
    show x.cps.size ≤ i
    simpa using h)
theorem kvR_keys {κ : Type} {H : Hp} {m : Nat → Addr} {n : Nat} : ∀ {ps : List (κ × D)} {vs : List (κ × V)}, KvR W H m n ps vs → vs.map (·.1) = ps.map (·.1)
  | [], vs, h => by
    have h : vs = [] := h
    rw [h]; rfl
  | p :: ps, vs, h => by
    obtain ⟨u, us, e, _, r⟩ := h
    rw [e, List.map_cons, List.map_cons, kvR_keys r]
theorem rlI_dk {H0 : Hp} {m0 : Nat → Addr} {n0 : Nat} {k : Nat} {o : Obj} {ps : List (Key × D)} {vs : List (Key × V)} (hk : k < n0) (hm : H0 (m0 k) = some (.frz o (.dK vs))) (r : KvR W H0 m0 n0 ps vs) : rlI W H0 m0 n0 (nxK k ps) (Itk (m0 k) o vs) := by
  intro i H m S e rs
  have hf := e.frz _ _ _ hm
  unfold nxK
  cases q : S.get k with
  | none => trivial
  | some o' =>
    cases o' <;> try trivial
    case fz o2 =>
      cases o2 <;> try trivial
      case dk _ =>
        show match nxL (ps.map fun p => kD p.1) i S with
          | some (some d) => (Itk (m0 k) o vs).go i H ∧ ∀ x H', (Itk (m0 k) o vs).yld i H x H' → Ext W H m S.n H' m S.n ∧ RelS W H' m S ∧ RelD W H' m S.n d x
          | some none => (Itk (m0 k) o vs).stop i H
          | none => True
        unfold nxL
        cases q2 : (ps.map fun p => kD p.1)[i]? with
        | none =>
          refine ⟨hf, ?_⟩
          have z := List.getElem?_eq_none_iff.mp q2
          rw [List.length_map] at z
          rw [kvR_len r]
          exact z
        | some d =>
          have hi : i < vs.length := by
            have z := (List.getElem?_eq_some_iff.mp q2).1
            rw [List.length_map] at z
            rw [kvR_len r]
            exact z
          refine ⟨⟨hf, hi⟩, fun x H' y => ?_⟩
          obtain ⟨e1, ky, v, e2, e3⟩ := y
          subst e1 e3
          refine ⟨Ext.refl, rs, ?_⟩
          have z : (vs.map (·.1))[i]? = some ky := by rw [List.getElem?_map, e2]; rfl
          rw [kvR_keys r, List.getElem?_map] at z
          rw [List.getElem?_map] at q2
          cases q3 : ps[i]? with
          | none => rw [q3] at z; cases z
          | some p =>
            rw [q3] at z q2
            cases q2
            have z : p.1 = ky := Option.some.inj z
            show RelD W H' m S.n (kD p.1) (kV ky)
            rw [z]
            cases ky with
            | inl j => exact of_int
            | inr j => exact of_str
theorem kD_rel {H : Hp} {m : Nat → Addr} {n : Nat} : ∀ (l : List Key), RelDs W H m n (l.map kD) (l.map kV)
  | [] => by
    show RelDs W H m n [] []
    unfold RelDs
    rfl
  | k :: l => by
    show RelDs W H m n (kD k :: l.map kD) (kV k :: l.map kV)
    unfold RelDs
    refine ⟨_, _, rfl, ?_, kD_rel l⟩
    cases k with
    | inl j => exact of_int
    | inr j => exact of_str
theorem rlI_dt {H0 : Hp} {m0 : Nat → Addr} {n0 : Nat} {k : Nat} {o : Obj} {ps : List (List Key × D)} {vs : List (List Key × V)} (hk : k < n0) (hm : H0 (m0 k) = some (.frz o (.dT vs))) (r : KvR W H0 m0 n0 ps vs) : rlI W H0 m0 n0 (nxT k ps) (Itkt (m0 k) o vs) := by
  intro i H m S e rs
  have hf := e.frz _ _ _ hm
  unfold nxT
  cases q : S.get k with
  | none => trivial
  | some o' =>
    cases o' <;> try trivial
    case fz o2 =>
      cases o2 <;> try trivial
      case dt _ =>
        show match nxL (ps.map fun p => D.tup (p.1.map kD)) i S with
          | some (some d) => (Itkt (m0 k) o vs).go i H ∧ ∀ x H', (Itkt (m0 k) o vs).yld i H x H' → Ext W H m S.n H' m S.n ∧ RelS W H' m S ∧ RelD W H' m S.n d x
          | some none => (Itkt (m0 k) o vs).stop i H
          | none => True
        unfold nxL
        cases q2 : (ps.map fun p => D.tup (p.1.map kD))[i]? with
        | none =>
          refine ⟨hf, ?_⟩
          have z := List.getElem?_eq_none_iff.mp q2
          rw [List.length_map] at z
          rw [kvR_len r]
          exact z
        | some d =>
          have hi : i < vs.length := by
            have z := (List.getElem?_eq_some_iff.mp q2).1
            rw [List.length_map] at z
            rw [kvR_len r]
            exact z
          refine ⟨⟨hf, hi⟩, fun x H' y => ?_⟩
          obtain ⟨e1, ky, v, b, e2, e3, e4⟩ := y
          subst e1 e3
          refine ⟨Ext.refl, rs, ?_⟩
          have z : (vs.map (·.1))[i]? = some ky := by rw [List.getElem?_map, e2]; rfl
          rw [kvR_keys r, List.getElem?_map] at z
          rw [List.getElem?_map] at q2
          cases q3 : ps[i]? with
          | none => rw [q3] at z; cases z
          | some p =>
            rw [q3] at z q2
            cases q2
            have z : p.1 = ky := Option.some.inj z
            show RelD W H' m S.n (.tup (p.1.map kD)) (.ref b)
            rw [z]
            refine of_tup ⟨e4, fun j hj w => ?_⟩ (kD_rel ky)
            obtain ⟨ob, ho, g, hm2, ob2⟩ := rs.at_ j hj
            rw [w, e4] at hm2
            cases hm2
            cases ob with
            | hid => exact ob2.elim
            | lst _ => obtain ⟨_, z, _⟩ := ob2; cases z
            | dk _ => obtain ⟨_, z, _⟩ := ob2; cases z
            | dt _ => obtain ⟨_, z, _⟩ := ob2; cases z
            | fz _ => obtain ⟨_, _, z, _⟩ := ob2; cases z
            | ins _ _ => obtain ⟨_, _, z, _⟩ := ob2; cases z
end
end Z
set_option Elab.async false
set_option linter.all false
set_option autoImplicit false
set_option maxRecDepth 100000
/-! Z13: rules of walks; enumerate over tuples; locks. -/
namespace Z
open PySem PySem.Spec PyProof.Rows L2

/-! ### enumerate over a tuple -/
section
open Builtin
set_option maxHeartbeats 1000000 in
theorem enumB {v : Value} {o : Obj} {Hh : Heap → Prop} (B : PySem.Begins v o Hh) :
    Meets (Builtin.«enumerate.__new__» ⟨[.type "enumerate", v], []⟩) (fun _ R s => Hh s.heap ∧
      R (.ok (.ret (.ref (s.heap.push o).objs.size))) { s with heap := (s.heap.push o).push { cls := .type "enumerate", data := .fields #[.none, .bool false, .ref s.heap.objs.size, rawInt 0, .none, .none] } }) :=
  .of_wp fun prog w A R s h => by
    obtain ⟨hp, g, d, tk, os⟩ := s; obtain ⟨h1, h⟩ := h
    have hsub := sub_enumerate
    have q1 : ∀ {A' : Around} {E : Value → Shared → Prop} {Q : Value → Shared → Prop}, Q (.ref hp.objs.size) ⟨hp.push o, g, d, tk, os⟩ → wpAny (model prog w) A' (pyIter v) Q E ⟨hp, g, d, tk, os⟩ :=
      fun q => B.iter prog w _ _ ⟨hp, g, d, tk, os⟩ _ h1 q
    wp_walk using q1
    refine wpAny_stack_any fun st => wpAny_pure ?_
    split
    · rename_i c _ _ _ _ _
      cases (c == Value.type "enumerate")
      · wp_walk using q1
        exact ⟨_, rfl, h⟩
      · wp_walk using q1
        exact ⟨_, rfl, h⟩
    · wp_walk using q1
      exact ⟨_, rfl, h⟩
variable {prog : Program} {w : World} {A : Around} {E : Value → Shared → Prop} {s : Shared}
theorem enumB_call {v : Value} {o : Obj} {Hh : Heap → Prop} {Q : Value → Shared → Prop} (B : PySem.Begins v o Hh) (h1 : Hh s.heap)
    (h : ∀ h', IsEnum h' (s.heap.objs.size + 1) s.heap.objs.size 0 .none → h'.get? s.heap.objs.size = some o → h'.objs.size = s.heap.objs.size + 2 →
      (∀ b o, s.heap.get? b = some o → h'.get? b = some o) → Q (.ref (s.heap.objs.size + 1)) { s with heap := h' }) :
    wpAny (model prog w) A (call (.type "enumerate") [v]) Q E s := by
  refine callType_new F.called_enumerate (by decide) (F.typeCall_enumerate_1 _) (F.newCall_enumerate_1 _) (fun obj => F.args_object_init_2 obj _) F.entry_enumerate_new (enumB B) ⟨h1, ?_⟩
  have hz : (s.heap.push o).objs.size = s.heap.objs.size + 1 := Heap.size_push ..
  show _ ∧ _
  rw [hz]
  have he : IsEnum ((s.heap.push o).push { cls := .type "enumerate", data := .fields #[.none, .bool false, .ref s.heap.objs.size, rawInt 0, .none, .none] }) (s.heap.objs.size + 1) s.heap.objs.size 0 .none := by
    have := Heap.get?_push_size (s.heap.push o) (o := { cls := .type "enumerate", data := .fields #[.none, .bool false, .ref s.heap.objs.size, rawInt 0, .none, .none] }) rfl
    rw [hz] at this; exact this
  exact ⟨⟨_, he, rfl⟩, h _ he (Heap.get?_push_of_some _ (Heap.get?_push_size _ B.free)) (by rw [Heap.size_push, hz]) fun b o x => Heap.get?_push_of_some _ (Heap.get?_push_of_some _ x)⟩
end
/-- the tuple at a, each item in a new pair -/
def ItE (K : PySem.W.Frag) (a : Addr) : It :=
  ⟨fun i H => ∃ (xs : List V) (x : V), SqT K H a xs ∧ xs[i]? = some x, fun i H v H' => ∃ T x, v = .ref T ∧ H T = none ∧ H' = upd H T (.tup [.int (i : Nat), x]) ∧ ∀ xs, SqT K H a xs → xs[i]? = some x, fun i H => ∃ xs : List V, SqT K H a xs ∧ xs.length ≤ i⟩
theorem turn_enumT {P : Program} {w : World} {K : PySem.W.Frag} {elts : List Expr} {kk : Nat} {tpos : Pos} (a e it : Addr) (hai : a ≠ it) (hea : e ≠ a) :
    Turn P w K (.Tuple elts kk tpos) (ItE K a) [e, it] e (fun i h => (∃ old, IsEnum h e it ((i : Nat) : Int) old) ∧ h.IsTupleIter it a i ∧ e ≠ it) where
  mem := by simp
  obj := fun i h st b hb => by
    obtain ⟨⟨old, he⟩, ⟨o, ho, hc, hd⟩, _⟩ := st
    have e' : b = e ∨ b = it := by simpa using hb
    rcases e' with z | z
    · rw [z]; exact ⟨_, he, fun v q => nomatch q⟩
    · rw [z]; exact ⟨o, ho, fun v q => by rw [hd] at q; cases q⟩
  keep := fun i h h' st k => let ⟨⟨old, he⟩, hi, hne⟩ := st; ⟨⟨old, k e (by simp) _ he⟩, hi.at fun o q => k it (by simp) o q, hne⟩
  item := by
    intro X hP hw hK hc i pins s σ H E I hf st hg
    subst hP hw hK
    obtain ⟨⟨old, he⟩, hit, hne⟩ := st
    obtain ⟨xs, x, hq, hx⟩ := hg
    obtain ⟨its, rv, p, hz⟩ := I.tuple hq
    obtain ⟨u, hu, ru⟩ := rv.get hx
    have hel : e < s.heap.objs.size := Heap.lt_size he
    have hil : it < s.heap.objs.size := by obtain ⟨_, q, _⟩ := hit; exact Heap.lt_size q
    have hlt : i < its.toArray.size := by
      have z := (List.getElem?_eq_some_iff.mp hu).1
      simpa using z
    refine wpAny_pyNext_enum_itemD (Draws.tuple (A := X.A.in1) (I.ok.hd hc) it a hai its.toArray) he ⟨hit, (show s.heap.IsTuple a its.toArray from p)⟩ hlt hne (by simp [hne, hea]) fun y h' tk hy ho hst hT hsz hk => ?_
    have ey : y = u := by
      have z : its[i]? = some y := by simpa using hy
      rw [hu] at z
      exact (Option.some.inj z).symm
    subst ey
    refine ⟨_, rfl, wpAny_letOwnedTupleGo_enum (s := { s with heap := h', toks := tk + 1 }) ho fun h'' he' sb => ?_⟩
    have hT2 : h''.get? s.heap.objs.size = some { cls := .type "tuple", data := .seq #[.int i tk, y] } := (sb.2 _ (Nat.ne_of_gt hel)).trans hT
    have new : ObjOk X.prog X.w (upd H s.heap.objs.size (.tup [.int (i : Nat), x])) h'' s.heap.objs.size (.tup [.int (i : Nat), x]) :=
      ⟨by show 2 ≤ sizeLine; decide, [.int i tk, y], .cons ⟨_, rfl⟩ (.cons ru .nil), ⟨_, hT2, rfl, _, rfl⟩⟩
    have I1 : Inv X pins σ (upd H s.heap.objs.size (.tup [.int (i : Nat), x])) { s with heap := h'', toks := tk + 1 } :=
      I.turnedNew (ch := [e, it]) (fun b ob hb q => (sb.2 b (fun z => hb (by simp [z]))).trans (hk b ob (fun z => hb (by simp [z])) (fun z => hb (by simp [z])) q)) hf (Nat.le_refl _) new
    refine ⟨.ref s.heap.objs.size, _, I1, rfl, ⟨_, x, rfl, I.hok.fresh (Nat.le_refl _), rfl, fun ys hy => by rw [I.tuple_inj hy hq]; exact hx⟩, ⟨⟨y, ?_⟩, hst.1.at fun o q => (sb.2 it (Ne.symm hne)).trans q, hne⟩, fun b hb => ?_⟩
    · have e1 : ((i + 1 : Nat) : Int) = (i : Int) + 1 := by omega
      rw [e1]; exact he'
    · have hb' : b < s.heap.objs.size := by
        have e' : b = e ∨ b = it := by simpa using hb
        rcases e' with z | z
        · rw [z]; exact hel
        · rw [z]; exact hil
      rw [upd_ne (Nat.ne_of_lt hb')]
      exact (hf b hb).1
  done := by
    intro X hP hw hK hc i pins s σ H E I hf st hg
    subst hP hw hK
    obtain ⟨⟨old, he⟩, hit, hne⟩ := st
    obtain ⟨xs, hq, hx⟩ := hg
    obtain ⟨its, rv, p, hz⟩ := I.tuple hq
    obtain ⟨f0, f1, f2, f3, f4, f5⟩ := hf it (by simp)
    have hl := rv.length
    have hT : s.TypeIs (.ref e) "enumerate" := ⟨_, he, rfl⟩
    unfold pyNext
    refine wpAny_bind (wpAny_attempt (wpAny_callSpecial?_slot (name := Str.ofString "__next__") hT F.slot_enumerate_next (wpAny_call_entry F.slot_enumerate_next hT F.entry_enumerate_next ?_ (F.args_enumerate_next_1 _))))
    show wpAny _ _ (field (.ref e) 2 >>= _) _ _ _
    refine wpAny_bind (wpAny_field he rfl (x := .ref it) rfl (wpAny_bind (wpAny_nextOf_tuple_end (A := X.A.in1) (I.ok.hd hc) hit (show s.heap.IsTuple a its.toArray from p) (by simp; omega) fun h' y eb hy => ?_)))
    obtain ⟨o, ho, hcl⟩ := hy
    exact wpAny_bind (wpAny_isInstance (T := "StopIteration") (b := true) ⟨o, ho, hcl⟩ isSubtype_stop (wpAny_pure ⟨rfl, I.turned (t' := s.toks) (fun b o hb q => eb b o hb q) f0 f1 f3 f4 f5⟩))
  self := fun A i s Q E st h => let ⟨⟨_, he⟩, _⟩ := st; wpAny_pyIter_enum he h
def iEnumT (K : PySem.W.Frag) (ta : TA) : TI := fun σ H R => ta σ H fun vs H1 => ∃ a xs, vs = [.ref a] ∧ SqT K H1 a xs ∧ R (ItE K a) H1
theorem pi_enumT {X : Cx} {e : Expr} {ta : TA} {p pos tpos : Pos} {elts : List Expr} {kk : Nat} (hg : Gl X "enumerate") (hm : X.mg "enumerate" = none) (ha : PA X [e] ta) (hs : starEach [e] X.env = [(false, eval e X.env)]) :
    PI X (.Tuple elts kk tpos) (.Call (.Name "enumerate" p) [e] [] pos) (iEnumT X.K ta) := by
  refine ⟨fun pins s σ H R I h => ?_⟩
  refine Call_ (ld_blt I hg hm boot_enumerate (PyProof.Rows.callWith_type1 (thn (ha.run pos pins s σ H _ I h) fun us s1 ⟨vs, H1, I1, r1, q1⟩ => ?_) hs rfl))
  obtain ⟨a, xs, ex, hq, q⟩ := q1
  subst ex
  cases r1 with
  | cons r rr =>
    cases rr
    cases r
    obtain ⟨its, rv, p', hz⟩ := I1.tuple hq
    have hal : a < s1.heap.objs.size := by
      obtain ⟨o, ho, _⟩ := (show s1.heap.IsTuple a its.toArray from p')
      exact Heap.lt_size ho
    refine enumB_call (PySem.begins_tuple a its.toArray) (show s1.heap.IsTuple a its.toArray from p') fun h' he hit hsz hk => wpAny_pyIter_enum he ?_
    have I2 : Inv X pins σ H1 { s1 with heap := h' } := I1.kept (t' := s1.toks) hk
    refine ⟨s1.heap.objs.size + 1, [s1.heap.objs.size + 1, s1.heap.objs.size], _, _, H1, rfl, I2, turn_enumT a (s1.heap.objs.size + 1) s1.heap.objs.size (Nat.ne_of_lt hal) (Nat.ne_of_gt (Nat.lt_succ_of_lt hal)), ⟨⟨.none, he⟩, ⟨_, hit, rfl, rfl⟩, Nat.succ_ne_self _⟩, fun b hb => ?_, q⟩
    have e' : b = s1.heap.objs.size + 1 ∨ b = s1.heap.objs.size := by simpa using hb
    have hle : s1.heap.objs.size ≤ b := by
      rcases e' with z | z
      · rw [z]; exact Nat.le_add_right _ _
      · rw [z]; exact Nat.le_refl _
    exact I1.fpOk hle (I1.hok.fresh hle)
end Z
set_option Elab.async false
set_option linter.all false
set_option autoImplicit false
set_option maxRecDepth 100000
/-! Z14: rules of walks; locks. -/
namespace Z
open PySem PySem.Spec PyProof.Rows L2

section
variable {X : Cx} {W : Wd} {E : St → XK} {pos : Pos} {tg e : Expr}
theorem z_iter {f : FE} (hK : X.K = W.K) (he : PE X e (tE W E f)) : PI X tg e (tI W E (fIter f)) := by
  refine pi_imp (pi_or (pi_tup he) (pi_or (pi_list he) (pi_or (pi_str he) (pi_keys he)))) fun σ H R h => ?_
  obtain ⟨env, m, S, h1, h2, h3⟩ := h
  have h3 : PostG W (rlI W) (E σ) H m S.n ((f env S).bind fun d S1 => match walkD d S1 with
    | some nx => .ok nx S1
    | none => .no) R := h3
  cases q : f env S with
  | no => rw [q] at h3; exact h3.elim
  | exc c x S1 => rw [q] at h3; exact .inl ⟨env, m, S, h1, h2, by rw [q]; exact h3⟩
  | ok d S1 =>
    rw [q] at h3
    have h3 : PostG W (rlI W) (E σ) H m S.n (match walkD d S1 with
      | some nx => .ok nx S1
      | none => .no) R := h3
    cases q2 : walkD d S1 with
    | none => rw [q2] at h3; exact h3.elim
    | some nx =>
      rw [q2] at h3
      cases d with
      | tup ds =>
        refine .inl ⟨env, m, S, h1, h2, ?_⟩
        rw [q]
        intro H1 m1 v e1 rs r
        obtain ⟨a, vs, ea, t, ru⟩ := relD_tupE r
        cases q2
        exact ⟨a, ea, ⟨vs, by rw [hK]; exact t.sq⟩, by rw [hK]; exact h3 H1 m1 _ e1 rs (rlI_tup t ru)⟩
      | ktp ds =>
        refine .inl ⟨env, m, S, h1, h2, ?_⟩
        rw [q]
        intro H1 m1 v e1 rs r
        obtain ⟨a, vs, ea, t, ru⟩ := relD_ktpE r
        cases q2
        exact ⟨a, ea, ⟨vs, by rw [hK]; exact t.sq⟩, by rw [hK]; exact h3 H1 m1 _ e1 rs (rlI_ktp t ru)⟩
      | sq ds =>
        refine .inr (.inl ⟨env, m, S, h1, h2, ?_⟩)
        rw [q]
        intro H1 m1 v e1 rs r
        obtain ⟨a, vs, ea, t, ru⟩ := relD_sqE r
        cases q2
        exact ⟨a, ea, ⟨vs, by rw [hK]; exact t.sq⟩, by rw [hK]; exact h3 H1 m1 _ e1 rs (rlI_sq t ru)⟩
      | str x =>
        refine .inr (.inr (.inl ⟨env, m, S, h1, h2, ?_⟩))
        rw [q]
        intro H1 m1 v e1 rs r
        cases q2
        exact ⟨x, relD_str r, h3 H1 m1 _ e1 rs rlI_str⟩
      | loc k =>
        have q2 : (match S1.get k with
          | some (.lst _) => some (nxS k)
          | some (.fz (.dk ps)) => some (nxK k ps)
          | some (.fz (.dt ps)) => some (nxT k ps)
          | _ => none) = some nx := q2
        split at q2
        · rename_i ds hk
          cases q2
          refine .inr (.inl ⟨env, m, S, h1, h2, ?_⟩)
          rw [q]
          intro H1 m1 v e1 rs r
          obtain ⟨vs, hm, _⟩ := rs.lst hk
          obtain ⟨hl, ev⟩ := relD_locE r
          exact ⟨_, ev, ⟨vs, SqL.of hm⟩, by rw [hK]; exact h3 H1 m1 _ e1 rs (rlI_lst hl)⟩
        · rename_i ps hk
          cases q2
          refine .inr (.inr (.inr ⟨env, m, S, h1, h2, ?_⟩))
          rw [q]
          intro H1 m1 v e1 rs r
          obtain ⟨o, ho, g, hm, ob⟩ := rs.at_ k (Sto.get_lt hk)
          rw [hk] at g
          cases g
          obtain ⟨od, u, eo, vs, eu, kv⟩ := ob
          subst eo eu
          obtain ⟨hl, ev⟩ := relD_locE r
          exact ⟨_, od, ev, .inl ⟨vs, hm, h3 H1 m1 _ e1 rs (rlI_dk hl hm kv)⟩⟩
        · rename_i ps hk
          cases q2
          refine .inr (.inr (.inr ⟨env, m, S, h1, h2, ?_⟩))
          rw [q]
          intro H1 m1 v e1 rs r
          obtain ⟨o, ho, g, hm, ob⟩ := rs.at_ k (Sto.get_lt hk)
          rw [hk] at g
          cases g
          obtain ⟨od, u, eo, vs, eu, kv⟩ := ob
          subst eo eu
          obtain ⟨hl, ev⟩ := relD_locE r
          exact ⟨_, od, ev, .inr ⟨vs, hm, h3 H1 m1 _ e1 rs (rlI_dt hl hm kv)⟩⟩
        · cases q2
      | _ => cases q2

/-! ### range -/
def nxR (lo : Int) (n : Nat) : Nx := fun i _ => if i < n then some (some (.int (lo + i))) else some none
theorem rlI_rng {H0 : Hp} {m0 : Nat → Addr} {n0 : Nat} {lo : Int} {n : Nat} : rlI W H0 m0 n0 (nxR lo n) (Itr lo n) := by
  intro i H m S e rs
  unfold nxR
  by_cases h : i < n
  · rw [if_pos h]
    refine ⟨h, fun x H' y => ?_⟩
    obtain ⟨e1, e2⟩ := y
    subst e1 e2
    exact ⟨Ext.refl, rs, of_int⟩
  · rw [if_neg h]
    exact Nat.not_lt.mp h
def okR (i : Int) : Bool := decide (-(2 ^ 62) ≤ i) && decide (i < 2 ^ 62)
theorem okR_ok {i : Int} (h : okR i = true) : -(2 ^ 62) ≤ i ∧ i < 2 ^ 62 := by
  unfold okR at h
  simpa using h
def rng1 : D → Option (Int × Nat)
  | .int j => if okR j then some (0, j.toNat) else none
  | _ => none
def rng2 : D → D → Option (Int × Nat)
  | .int i, .int j => if okR i && okR j then some (i, (j - i).toNat) else none
  | _, _ => none
def rngN (o : Option (Int × Nat)) (S : Sto) : R Nx := match o with
  | some p => .ok (nxR p.1 p.2) S
  | none => .no
def fRng1 (f : FE) : En → Sto → R Nx := fun env S => (f env S).bind fun d S1 => rngN (rng1 d) S1
def fRng2 (f g : FE) : En → Sto → R Nx := fun env S => (f env S).bind fun a S1 => (g env S1).bind fun b S2 => rngN (rng2 a b) S2
theorem rngN_post {H : Hp} {m : Nat → Addr} {S : Sto} {E0 : XK} {o : Option (Int × Nat)} {R : It → Hp → Prop} (rs : RelS W H m S) (h : PostG W (rlI W) E0 H m S.n (rngN o S) R) : ∃ p, o = some p ∧ R (Itr p.1 p.2) H := by
  cases o with
  | none => exact h.elim
  | some p => exact ⟨p, rfl, h H m _ Ext.refl rs rlI_rng⟩
theorem z_range1 {a : Expr} {p : Pos} {f : FE} (hg : Gl X "range") (hm : X.mg "range" = none) (ha : PE X a (tE W E f)) (hs : starEach [a] X.env = (false, eval a X.env) :: starEach [] X.env) (hs2 : starEach [a] X.env = [(false, eval a X.env)]) :
    PI X tg (.Call (.Name "range" p) [a] [] pos) (tI W E (fRng1 f)) := by
  refine pi_imp (pi_range1 hg hm (pa_cons ha pa_nil hs) hs2) fun σ H R h => ?_
  refine (tG.seq (rl := RelD W) (g := fun env d S1 => rngN (rng1 d) S1) h).mono fun x H1 q => ?_
  obtain ⟨env, m, S, d, h1, h2, h3, h4⟩ := q
  obtain ⟨p, e, q⟩ := rngN_post h2 h4
  cases d <;> try cases e
  rename_i j
  have e : (if okR j = true then some ((0 : Int), j.toNat) else none) = some p := e
  by_cases hc : okR j = true
  · rw [if_pos hc] at e
    cases e
    cases relD_int h3
    exact ⟨j, rfl, (okR_ok hc).1, (okR_ok hc).2, q⟩
  · rw [if_neg hc] at e
    cases e
theorem z_range2 {a b : Expr} {p : Pos} {f g : FE} (hg : Gl X "range") (hm : X.mg "range" = none) (ha : PE X a (tE W E f)) (hb : PE X b (tE W E g)) (hs : starEach [a, b] X.env = (false, eval a X.env) :: starEach [b] X.env) (hs2 : starEach [b] X.env = (false, eval b X.env) :: starEach [] X.env)
    (hs3 : starEach [a, b] X.env = [(false, eval a X.env), (false, eval b X.env)]) (hs4 : starEach [b] X.env = [(false, eval b X.env)]) : PI X tg (.Call (.Name "range" p) [a, b] [] pos) (tI W E (fRng2 f g)) := by
  refine pi_imp (pi_range2 hg hm (pa_cons ha (pa_cons hb pa_nil hs2) hs) hs3 hs4) fun σ H R h => ?_
  refine (tG.seq (rl := RelD W) (g := fun env a S1 => (g env S1).bind fun b S2 => rngN (rng2 a b) S2) h).mono fun x H1 q => ?_
  obtain ⟨env, m, S, d, h1, h2, h3, h4⟩ := q
  refine (tG.seq2 (rl := RelD W) (rl0 := RelD W) (fun a v e r => RelD.ext e a v r) h1 h2 h3 h4).mono fun y H2 q => ?_
  obtain ⟨m2, S2, d2, _, g2, g3, g4, g5⟩ := q
  obtain ⟨p, e, q⟩ := rngN_post g2 g5
  cases d <;> cases d2 <;> try cases e
  rename_i i j
  have e : (if (okR i && okR j) = true then some (i, (j - i).toNat) else none) = some p := e
  by_cases hc : (okR i && okR j) = true
  · rw [if_pos hc] at e
    cases e
    cases relD_int g3
    cases relD_int g4
    simp only [Bool.and_eq_true] at hc
    exact ⟨i, j, rfl, ⟨(okR_ok hc.1).1, (okR_ok hc.1).2, (okR_ok hc.2).1, (okR_ok hc.2).2⟩, q⟩
  · rw [if_neg hc] at e
    cases e

/-! ### enumerate -/
def nxE (ds : List D) : Nx := fun i _ => match ds[i]? with
  | some d => some (some (.tup [.int (i : Nat), d]))
  | none => some none
def nxES (k : Nat) : Nx := fun i S => match S.get k with
  | some (.lst ds) => nxE ds i S
  | _ => none
theorem relDs_two {H : Hp} {m : Nat → Addr} {n : Nat} {a b : D} {x y : V} (r : RelD W H m n a x) (s : RelD W H m n b y) : RelDs W H m n [a, b] [x, y] := by
  unfold RelDs
  refine ⟨x, [y], rfl, r, ?_⟩
  unfold RelDs
  refine ⟨y, [], rfl, s, ?_⟩
  unfold RelDs
  rfl
theorem rlI_enumT {H0 : Hp} {m0 : Nat → Addr} {n0 : Nat} {a : Addr} {ds : List D} {vs : List V} (t : ∀ H m n, Ext W H0 m0 n0 H m n → SqT W.K H a vs) (r : RelDs W H0 m0 n0 ds vs) : rlI W H0 m0 n0 (nxE ds) (ItE W.K a) := by
  intro i H m S e rs
  unfold nxE
  cases q : ds[i]? with
  | none => exact ⟨vs, t H m S.n e, get_len r.len q⟩
  | some d =>
    obtain ⟨v, h1, h2⟩ := r.get q
    refine ⟨⟨vs, v, t H m S.n e, h1⟩, fun x H' y => ?_⟩
    obtain ⟨T, w, e1, hT, e2, e3⟩ := y
    have z := e3 vs (t H m S.n e)
    rw [h1] at z
    cases z
    subst e1 e2
    exact ⟨ext_upd hT, rs.upd hT, relD_tup rs hT (relDs_two of_int (RelD.ext e _ _ h2))⟩
theorem rlI_enumL {H0 : Hp} {m0 : Nat → Addr} {n0 : Nat} {k : Nat} (hk : k < n0) : rlI W H0 m0 n0 (nxES k) (Ite W.K (m0 k)) := by
  intro i H m S e rs
  unfold nxES
  have em : m k = m0 k := e.same k hk
  cases q : S.get k with
  | none => trivial
  | some o =>
    cases o <;> try trivial
    case lst ds =>
      obtain ⟨vs, hm, r⟩ := rs.lst q
      rw [em] at hm
      show match nxE ds i S with
        | some (some d) => (Ite W.K (m0 k)).go i H ∧ ∀ x H', (Ite W.K (m0 k)).yld i H x H' → Ext W H m S.n H' m S.n ∧ RelS W H' m S ∧ RelD W H' m S.n d x
        | some none => (Ite W.K (m0 k)).stop i H
        | none => True
      unfold nxE
      cases q2 : ds[i]? with
      | none => exact ⟨vs, SqL.of hm, get_len r.len q2⟩
      | some d =>
        obtain ⟨v, h1, h2⟩ := r.get q2
        refine ⟨⟨vs, v, SqL.of hm, h1⟩, fun x H' y => ?_⟩
        obtain ⟨T, w, e1, hT, e2, e3⟩ := y
        have z := e3 vs (SqL.of hm)
        rw [h1] at z
        cases z
        subst e1 e2
        exact ⟨ext_upd hT, rs.upd hT, relD_tup rs hT (relDs_two of_int h2)⟩
def enumD (d : D) (S : Sto) : R Nx := match d with
  | .tup ds => .ok (nxE ds) S
  | .ktp ds => .ok (nxE ds) S
  | .loc k => match S.get k with
    | some (.lst _) => .ok (nxES k) S
    | _ => .no
  | _ => .no
def fEnum (f : FE) : En → Sto → R Nx := fun env S => (f env S).bind enumD
theorem z_enum {p tpos : Pos} {elts : List Expr} {kk : Nat} {f : FE} (hK : X.K = W.K) (hg : Gl X "enumerate") (hm : X.mg "enumerate" = none) (he : PE X e (tE W E f)) (hs : starEach [e] X.env = (false, eval e X.env) :: starEach [] X.env) (hs2 : starEach [e] X.env = [(false, eval e X.env)]) :
    PI X (.Tuple elts kk tpos) (.Call (.Name "enumerate" p) [e] [] pos) (tI W E (fEnum f)) := by
  refine pi_imp (pi_or (pi_enum hg hm (pa_cons he pa_nil hs) hs2) (pi_enumT hg hm (pa_cons he pa_nil hs) hs2)) fun σ H R h => ?_
  obtain ⟨env, m, S, h1, h2, h3⟩ := h
  have h3 : PostG W (rlI W) (E σ) H m S.n ((f env S).bind enumD) R := h3
  cases q : f env S with
  | no => rw [q] at h3; exact h3.elim
  | exc c x S1 => rw [q] at h3; exact .inl (show tE W E f σ H _ from ⟨env, m, S, h1, h2, by rw [q]; exact h3⟩)
  | ok d S1 =>
    rw [q] at h3
    have h3 : PostG W (rlI W) (E σ) H m S.n (enumD d S1) R := h3
    cases d with
    | tup ds =>
      refine .inr (show tE W E f σ H _ from ⟨env, m, S, h1, h2, ?_⟩)
      rw [q]
      intro H1 m1 v e1 rs r
      obtain ⟨a, vs, ea, t, ru⟩ := relD_tupE r
      subst ea
      exact ⟨a, vs, rfl, by rw [hK]; exact t.sq, by rw [hK]; exact h3 H1 m1 _ e1 rs (rlI_enumT (fun H m n e => (t.ext e).sq) ru)⟩
    | ktp ds =>
      refine .inr (show tE W E f σ H _ from ⟨env, m, S, h1, h2, ?_⟩)
      rw [q]
      intro H1 m1 v e1 rs r
      obtain ⟨a, vs, ea, t, ru⟩ := relD_ktpE r
      subst ea
      exact ⟨a, vs, rfl, by rw [hK]; exact t.sq, by rw [hK]; exact h3 H1 m1 _ e1 rs (rlI_enumT (fun H m n e => t.sq) ru)⟩
    | loc k =>
      have h3 : PostG W (rlI W) (E σ) H m S.n (match S1.get k with
        | some (.lst _) => .ok (nxES k) S1
        | _ => .no) R := h3
      split at h3
      · rename_i ds hk
        refine .inl (show tE W E f σ H _ from ⟨env, m, S, h1, h2, ?_⟩)
        rw [q]
        intro H1 m1 v e1 rs r
        obtain ⟨vs, hm, _⟩ := rs.lst hk
        obtain ⟨hl, ev⟩ := relD_locE r
        subst ev
        exact ⟨_, vs, rfl, SqL.of hm, by rw [hK]; exact h3 H1 m1 _ e1 rs (rlI_enumL hl)⟩
      · exact h3.elim
    | _ => exact h3.elim

/-! ### zip -/
def nxZ (as bs : List D) : Nx := fun i _ => match as[i]?, bs[i]? with
  | some a, some b => some (some (.tup [a, b]))
  | _, _ => some none
def nxZS (j k : Nat) : Nx := fun i S => match S.get j, S.get k with
  | some (.lst as), some (.lst bs) => nxZ as bs i S
  | _, _ => none
theorem rlI_zipT {H0 : Hp} {m0 : Nat → Addr} {n0 : Nat} {a b : Addr} {ds es : List D} {vs us : List V} (t : ∀ H m n, Ext W H0 m0 n0 H m n → SqT W.K H a vs ∧ SqT W.K H b us) (r : RelDs W H0 m0 n0 ds vs) (r2 : RelDs W H0 m0 n0 es us) : rlI W H0 m0 n0 (nxZ ds es) (RZ.ItzT W.K a b) := by
  intro i H m S e rs
  obtain ⟨t1, t2⟩ := t H m S.n e
  unfold nxZ
  cases q : ds[i]? with
  | none => exact ⟨vs, us, t1, t2, .inl (get_len r.len q)⟩
  | some d =>
    cases q2 : es[i]? with
    | none => exact ⟨vs, us, t1, t2, .inr (get_len r2.len q2)⟩
    | some d2 =>
      obtain ⟨v, h1, h2⟩ := r.get q
      obtain ⟨u, k1, k2⟩ := r2.get q2
      refine ⟨⟨vs, us, v, u, t1, t2, h1, k1⟩, fun x H' y => ?_⟩
      obtain ⟨T, w, w2, e1, hT, e2, e3, e4⟩ := y
      have z := e3 vs t1
      rw [h1] at z
      cases z
      have z := e4 us t2
      rw [k1] at z
      cases z
      subst e1 e2
      exact ⟨ext_upd hT, rs.upd hT, relD_tup rs hT (relDs_two (RelD.ext e _ _ h2) (RelD.ext e _ _ k2))⟩
theorem rlI_zipL {H0 : Hp} {m0 : Nat → Addr} {n0 : Nat} {j k : Nat} (hj : j < n0) (hk : k < n0) : rlI W H0 m0 n0 (nxZS j k) (Itz W.K (m0 j) (m0 k)) := by
  intro i H m S e rs
  unfold nxZS
  have ej : m j = m0 j := e.same j hj
  have ek : m k = m0 k := e.same k hk
  cases q : S.get j with
  | none => trivial
  | some o =>
    cases o <;> try trivial
    case lst ds =>
      cases q' : S.get k with
      | none => trivial
      | some o' =>
        cases o' <;> try trivial
        case lst es =>
          obtain ⟨vs, hm, r⟩ := rs.lst q
          obtain ⟨us, hm2, r2⟩ := rs.lst q'
          rw [ej] at hm
          rw [ek] at hm2
          show match nxZ ds es i S with
            | some (some d) => (Itz W.K (m0 j) (m0 k)).go i H ∧ ∀ x H', (Itz W.K (m0 j) (m0 k)).yld i H x H' → Ext W H m S.n H' m S.n ∧ RelS W H' m S ∧ RelD W H' m S.n d x
            | some none => (Itz W.K (m0 j) (m0 k)).stop i H
            | none => True
          unfold nxZ
          cases q1 : ds[i]? with
          | none => exact ⟨vs, us, SqL.of hm, SqL.of hm2, .inl (get_len r.len q1)⟩
          | some d =>
            cases q2 : es[i]? with
            | none => exact ⟨vs, us, SqL.of hm, SqL.of hm2, .inr (get_len r2.len q2)⟩
            | some d2 =>
              obtain ⟨v, h1, h2⟩ := r.get q1
              obtain ⟨u, k1, k2⟩ := r2.get q2
              refine ⟨⟨vs, us, v, u, SqL.of hm, SqL.of hm2, h1, k1⟩, fun x H' y => ?_⟩
              obtain ⟨T, w, w2, e1, hT, e2, e3, e4⟩ := y
              have z := e3 vs (SqL.of hm)
              rw [h1] at z
              cases z
              have z := e4 us (SqL.of hm2)
              rw [k1] at z
              cases z
              subst e1 e2
              exact ⟨ext_upd hT, rs.upd hT, relD_tup rs hT (relDs_two h2 k2)⟩
def seqD : D → Option (List D)
  | .tup ds => some ds
  | .ktp ds => some ds
  | _ => none
def zipD (a b : D) (S : Sto) : R Nx := match seqD a, seqD b with
  | some as, some bs => .ok (nxZ as bs) S
  | _, _ => match a, b with
    | .loc j, .loc k => match S.get j, S.get k with
      | some (.lst _), some (.lst _) => .ok (nxZS j k) S
      | _, _ => .no
    | _, _ => .no
def fZip (f g : FE) : En → Sto → R Nx := fun env S => (f env S).bind fun a S1 => (g env S1).bind fun b S2 => zipD a b S2
theorem seqD_ok {H : Hp} {m : Nat → Addr} {n : Nat} {d : D} {ds : List D} {v : V} (h : seqD d = some ds) (r : RelD W H m n d v) : ∃ a vs, v = .ref a ∧ (∀ H' m' n', Ext W H m n H' m' n' → SqT W.K H' a vs) ∧ RelDs W H m n ds vs := by
  cases d <;> try cases h
  · obtain ⟨a, vs, ea, t, ru⟩ := relD_tupE r
    exact ⟨a, vs, ea, fun H' m' n' e => (t.ext e).sq, ru⟩
  · obtain ⟨a, vs, ea, t, ru⟩ := relD_ktpE r
    exact ⟨a, vs, ea, fun H' m' n' e => t.sq, ru⟩
theorem z_zip {e2 : Expr} {p tpos : Pos} {elts : List Expr} {kk : Nat} {f g : FE} (hK : X.K = W.K) (hg : Gl X "zip") (hm : X.mg "zip" = none) (he : PE X e (tE W E f)) (he2 : PE X e2 (tE W E g)) (hs : starEach [e, e2] X.env = (false, eval e X.env) :: starEach [e2] X.env) (hs2 : starEach [e2] X.env = (false, eval e2 X.env) :: starEach [] X.env)
    (hpl : (backTo pos (starEach [e2] X.env)).any (·.1) = false) : PI X (.Tuple elts kk tpos) (.Call (.Name "zip" p) [e, e2] [] pos) (tI W E (fZip f g)) := by
  refine pi_imp (RZ.pi_zipA hg hm (pa_cons he (pa_cons he2 pa_nil hs2) hs) hs hpl) fun σ H R h => ?_
  refine (tG.seq (rl := RelD W) (g := fun env a S1 => (g env S1).bind fun b S2 => zipD a b S2) h).mono fun x H1 q => ?_
  obtain ⟨env, m, S, a, h1, h2, h3, h4⟩ := q
  refine (tG.seq2 (rl := RelD W) (rl0 := RelD W) (fun a v e r => RelD.ext e a v r) h1 h2 h3 h4).mono fun y H2 q => ?_
  obtain ⟨m2, S2, b, _, rs, ra, rb, p⟩ := q
  unfold zipD at p
  split at p
  · rename_i as bs qa qb
    obtain ⟨a', vs, ea, ta, ru⟩ := seqD_ok qa ra
    obtain ⟨b', us, eb, tb, rv⟩ := seqD_ok qb rb
    subst ea eb
    refine ⟨a', b', vs, us, rfl, .inr ⟨by rw [hK]; exact ta _ _ _ Ext.refl, by rw [hK]; exact tb _ _ _ Ext.refl, ?_⟩⟩
    rw [hK]
    exact p H2 m2 _ Ext.refl rs (rlI_zipT (fun H m n e => ⟨ta H m n e, tb H m n e⟩) ru rv)
  · split at p
    · rename_i j k _
      split at p
      · rename_i ds es hj hk
        obtain ⟨vs, hm1, _⟩ := rs.lst hj
        obtain ⟨us, hm2, _⟩ := rs.lst hk
        obtain ⟨hlj, ea⟩ := relD_locE ra
        obtain ⟨hlk, eb⟩ := relD_locE rb
        subst ea eb
        refine ⟨_, _, vs, us, rfl, .inl ⟨SqL.of hm1, SqL.of hm2, ?_⟩⟩
        rw [hK]
        exact p H2 m2 _ Ext.refl rs (rlI_zipL hlj hlk)
      · exact p.elim
    · exact p.elim
end
end Z
set_option Elab.async false
set_option linter.all false
set_option autoImplicit false
set_option maxRecDepth 100000
/-! Z15: locks. -/
namespace Z
open PySem PySem.Spec PyProof.Rows L2

def Ob.isDict : Ob → Bool
  | .dk _ => true
  | .dt _ => true
  | _ => false
section
variable {X : Cx} {W : Wd} {E : St → XK} {pos : Pos}
theorem RelEn.ext0 {H H' : Hp} {m m' : Nat → Addr} {n n' : Nat} (e : Ext0 W H m n H' m' n') {env : En} {σ : St} (h : RelEn W H m n env σ) : RelEn W H' m' n' env σ :=
  ⟨h.len, fun i d q => by
    obtain ⟨v, h1, h2⟩ := h.at_ i d q
    exact ⟨v, h1, RelD.ext0 e d v h2⟩⟩
theorem dict_at {H : Hp} {m : Nat → Addr} {S : Sto} (rs : RelS W H m S) {k : Nat} {b : Ob} (h : S.get k = some b) (hd : b.isDict = true) : ∃ u, H (m k) = some u ∧ Mut (some u) ∧ Wr u ∧ ObR W H m S.n b u := by
  cases b <;> try cases hd
  · obtain ⟨vs, hm, kv⟩ := dk_own rs h
    exact ⟨_, hm, trivial, trivial, _, rfl, kv⟩
  · obtain ⟨vs, hm, kv⟩ := dt_own rs h
    exact ⟨_, hm, trivial, trivial, _, rfl, kv⟩
theorem rel_lock {H : Hp} {m : Nat → Addr} {S : Sto} (rs : RelS W H m S) {k : Nat} {b : Ob} {u : HO} (h : S.get k = some b) (hm : H (m k) = some u) (wr : Wr u) (r : ObR W H m S.n b u) (od : Obj) :
    Ext W H m S.n (upd H (m k) (.frz od u)) m S.n ∧ RelS W (upd H (m k) (.frz od u)) m (S.set k (.fz b)) :=
  ⟨ext_set rs (Sto.get_lt h) hm wr.nf, rs.set h hm wr.nt wr.ns ⟨od, u, rfl, r⟩⟩
/-- the lock falls: from H, locked, run on to H' -/
theorem rel_unlock {H H' : Hp} {m m' : Nat → Addr} {S S' : Sto} {k : Nat} {b' : Ob} {u : HO} {od : Obj} (hk : k < S.n) (hm : H (m k) = some u) (wr : Wr u) (e : Ext W (upd H (m k) (.frz od u)) m S.n H' m' S'.n) (rs : RelS W H' m' S') (hl : H' (m k) = some (.frz od u)) (hb : S'.get k = some (.fz b')) (e1 : Ext W H m S.n (upd H (m k) (.frz od u)) m S.n) :
    Ext0 W H' m' S'.n (upd H' (m k) u) m' S'.n ∧ Ext W H m S.n (upd H' (m k) u) m' S'.n ∧ RelS W (upd H' (m k) u) m' (S'.set k b') := by
  have em : m' k = m k := e.same k hk
  have hk' := Sto.get_lt hb
  have x0 : Ext0 W H' m' S'.n (upd H' (m k) u) m' S'.n := by
    rw [← em]
    exact ext0_set rs hk'
  refine ⟨x0, ⟨(e1.toExt0.trans e.toExt0).trans x0, fun a o w hw => ?_⟩, ?_⟩
  · have ne : a ≠ m k := fun z => by
      rw [z, hm] at hw
      exact wr.nf o w (Option.some.inj hw)
    rw [upd_ne ne]
    exact e.frz a o w (e1.frz a o w hw)
  · have key : ∀ ob, ObR W H' m' S'.n (.fz b') ob → ob = .frz od u → ObR W H' m' S'.n b' u := fun ob r eo => by
      obtain ⟨od2, u2, e2, r2⟩ := r
      rw [eo] at e2
      injection e2 with e3 e4
      rw [e4]
      exact r2
    obtain ⟨o, ho, g, hq, r⟩ := rs.at_ k hk'
    rw [hb] at g
    cases g
    have hl' : H' (m' k) = some (.frz od u) := by rw [em]; exact hl
    rw [hq] at hl'
    have r' := key ho r (Option.some.inj hl')
    have z := rs.set (b := b') (o := u) hb hq (fun ps w => by rw [w] at hl'; cases hl') (fun φ w => by rw [w] at hl'; cases hl') r'
    rw [em] at z
    exact z
/-- the lock at k falls -/
def unl (k : Nat) (S : Sto) : Option Sto := match S.get k with
  | some (.fz b) => some (S.set k b)
  | _ => none
def RS.unl (k : Nat) : RS → RS
  | .ok f S => match Z.unl k S with
    | some S' => .ok f S'
    | none => .no
  | r => r
def R.unl {α : Type} (k : Nat) : R α → R α
  | .ok a S => match Z.unl k S with
    | some S' => .ok a S'
    | none => .no
  | r => r
/-- the dict that stands in the slot i, if one does -/
def dictOf (i : Nat) (env : En) (S : Sto) : Option (Nat × Ob) := match env[i]? with
  | some (some (.loc k)) => match S.get k with
    | some b => if b.isDict then some (k, b) else none
    | none => none
  | _ => none
def gLock (i : Nat) (g : En → Sto → RS) : En → Sto → RS := fun env S => match dictOf i env S with
  | some p => (g env (S.set p.1 (.fz p.2))).unl p.1
  | none => g env S
def fLock {α : Type} (i : Nat) (f : En → Sto → R α) : En → Sto → R α := fun env S => match dictOf i env S with
  | some p => (f env (S.set p.1 (.fz p.2))).unl p.1
  | none => f env S
theorem dictOf_ok {i : Nat} {env : En} {S : Sto} {p : Nat × Ob} (h : dictOf i env S = some p) : S.get p.1 = some p.2 ∧ p.2.isDict = true := by
  unfold dictOf at h
  split at h
  · split at h
    · rename_i k _ b hk
      by_cases hd : b.isDict = true
      · rw [if_pos hd] at h
        cases h
        exact ⟨hk, hd⟩
      · rw [if_neg hd] at h
        cases h
    · cases h
  · cases h
theorem ps_or {st : Stmt} {t t' : TS} (h : PS X st t) (h' : PS X st t') : PS X st (fun D σ H => t D σ H ∨ t' D σ H) := ⟨fun pins s σ H D I q => by
  rcases q with q | q
  · exact h.run pins s σ H D I q
  · exact h'.run pins s σ H D I q⟩
theorem pe_or {e : Expr} {t t' : TE} (h : PE X e t) (h' : PE X e t') : PE X e (fun σ H Q => t σ H Q ∨ t' σ H Q) := ⟨fun pins s σ H Q I q => by
  rcases q with q | q
  · exact h.run pins s σ H Q I q
  · exact h'.run pins s σ H Q I q⟩
theorem unl_ok {k : Nat} {S S' : Sto} (h : Z.unl k S = some S') : ∃ b, S.get k = some (.fz b) ∧ S' = S.set k b := by
  unfold Z.unl at h
  split at h
  · rename_i b hb
    cases h
    exact ⟨b, hb, rfl⟩
  · cases h
theorem z_lockS {st : Stmt} {g : En → Sto → RS} (i : Nat) (h : PS X st (tS W E g)) : PS X st (tS W E (gLock i g)) := by
  refine ps_imp (ps_or h (ps_lock h)) fun D0 σ H q => ?_
  obtain ⟨env, m, S, h1, h2, h3⟩ := q
  unfold gLock at h3
  cases hd : dictOf i env S with
  | none => rw [hd] at h3; exact .inl ⟨env, m, S, h1, h2, h3⟩
  | some p =>
    rw [hd] at h3
    obtain ⟨hk, hdi⟩ := dictOf_ok hd
    obtain ⟨u, hm, mu, wr, r⟩ := dict_at h2 hk hdi
    refine .inr ⟨m p.1, u, hm, mu, fun od => ?_⟩
    obtain ⟨e1, rs1⟩ := rel_lock h2 hk hm wr r od
    refine ⟨env, m, S.set p.1 (.fz p.2), h1.ext e1, rs1, ?_⟩
    have h3 : PostS W E D0 H m S.n ((g env (S.set p.1 (.fz p.2))).unl p.1) := h3
    have hkn := Sto.get_lt hk
    have fin : ∀ {H' m' S' S''}, Ext W (upd H (m p.1) (.frz od u)) m S.n H' m' S'.n → RelS W H' m' S' → Z.unl p.1 S' = some S'' → H' (m p.1) = some (.frz od u) ∧ Ext0 W H' m' S'.n (upd H' (m p.1) u) m' S''.n ∧ Ext W H m S.n (upd H' (m p.1) u) m' S''.n ∧ RelS W (upd H' (m p.1) u) m' S'' := fun {H' m' S' S''} e rs hu => by
      obtain ⟨b', hb', es⟩ := unl_ok hu
      subst es
      have hl : H' (m p.1) = some (.frz od u) := e.frz _ _ _ upd_same
      obtain ⟨a1, a2, a3⟩ := rel_unlock hkn hm wr e rs hl hb' e1
      exact ⟨hl, a1, a2, a3⟩
    cases q : g env (S.set p.1 (.fz p.2)) with
    | no => rw [q] at h3; exact h3.elim
    | exc c x env' S' =>
      rw [q] at h3
      exact fun H' m' σ' d v e rs en a1 a2 a3 => h3 H' m' σ' d v (e1.trans e) rs en a1 a2 a3
    | ok f S' =>
      rw [q] at h3
      have h3 : PostS W E D0 H m S.n (match Z.unl p.1 S' with
        | some S'' => .ok f S''
        | none => .no) := h3
      cases hu : Z.unl p.1 S' with
      | none => rw [hu] at h3; exact h3.elim
      | some S'' =>
        rw [hu] at h3
        cases f with
        | nx env' =>
          intro H' m' σ' e rs en
          obtain ⟨b1, b2, b3, b4⟩ := fin e rs hu
          exact ⟨b1, h3 _ m' σ' b3 b4 (en.ext0 b2)⟩
        | bk env' =>
          intro H' m' σ' e rs en
          obtain ⟨b1, b2, b3, b4⟩ := fin e rs hu
          exact ⟨b1, h3 _ m' σ' b3 b4 (en.ext0 b2)⟩
        | ct env' =>
          intro H' m' σ' e rs en
          obtain ⟨b1, b2, b3, b4⟩ := fin e rs hu
          exact ⟨b1, h3 _ m' σ' b3 b4 (en.ext0 b2)⟩
        | rt d =>
          intro H' m' v e rs rd
          obtain ⟨b1, b2, b3, b4⟩ := fin e rs hu
          exact ⟨b1, h3 _ m' v b3 b4 (RelD.ext0 b2 _ _ rd)⟩
theorem z_lockE {ex : Expr} {f : FE} (i : Nat) (h : PE X ex (tE W E f)) : PE X ex (tE W E (fLock i f)) := by
  refine pe_imp (pe_or h (pe_lock h)) fun σ H Q q => ?_
  obtain ⟨env, m, S, h1, h2, h3⟩ := q
  unfold fLock at h3
  cases hd : dictOf i env S with
  | none => rw [hd] at h3; exact .inl ⟨env, m, S, h1, h2, h3⟩
  | some p =>
    rw [hd] at h3
    obtain ⟨hk, hdi⟩ := dictOf_ok hd
    obtain ⟨u, hm, mu, wr, r⟩ := dict_at h2 hk hdi
    refine .inr ⟨m p.1, u, hm, mu, fun od => ?_⟩
    obtain ⟨e1, rs1⟩ := rel_lock h2 hk hm wr r od
    refine ⟨env, m, S.set p.1 (.fz p.2), h1.ext e1, rs1, ?_⟩
    have h3 : PostG W (RelD W) (E σ) H m S.n ((f env (S.set p.1 (.fz p.2))).unl p.1) Q := h3
    have hkn := Sto.get_lt hk
    cases q : f env (S.set p.1 (.fz p.2)) with
    | no => rw [q] at h3; exact h3.elim
    | exc c x S' =>
      rw [q] at h3
      exact fun H' m' d v e rs a1 a2 a3 => h3 H' m' d v (e1.trans e) rs a1 a2 a3
    | ok a S' =>
      rw [q] at h3
      have h3 : PostG W (RelD W) (E σ) H m S.n (match Z.unl p.1 S' with
        | some S'' => .ok a S''
        | none => .no) Q := h3
      cases hu : Z.unl p.1 S' with
      | none => rw [hu] at h3; exact h3.elim
      | some S'' =>
        rw [hu] at h3
        intro H' m' v e rs rd
        obtain ⟨b', hb', es⟩ := unl_ok hu
        subst es
        have hl : H' (m p.1) = some (.frz od u) := e.frz _ _ _ upd_same
        obtain ⟨a1, a2, a3⟩ := rel_unlock hkn hm wr e rs hl hb' e1
        exact ⟨hl, h3 _ m' v a2 a3 (RelD.ext0 a1 _ _ rd)⟩
end
end Z
set_option Elab.async false
set_option linter.all false
set_option autoImplicit false
set_option maxRecDepth 100000
/-! Z16: sorted(set(a list of ints)). -/
namespace ZS
open PySem PySem.Spec PyProof.Rows L2

/-- a set that was just made -/
abbrev emp (w : World) : Obj := { cls := .type "set", dict := none, data := .set #[] 0 (.fresh 0 0 (!w.params.followText "set-order")) }
section
variable {P : Program} {w : World} {A : Around} {E : Value → Shared → Prop} {s : Shared}
set_option maxHeartbeats 3200000 in
/-- set(l), l a list of ints -/
theorem set_of_list {l : Addr} {items : Array Value} (ns : List Int) {Q : Value → Shared → Prop} (hh : A.handled = none) (hl : s.heap.IsList l items) (hit : IntsAre items.toList ns) (hb : ns.length + 1 < scanBound)
    (h : ∀ (h' : Heap) (tk c : Nat), SetR w h' s.heap.objs.size (fun j => decide (j ∈ ns)) c → c ≤ ns.length → (∀ b o, s.heap.get? b = some o → h'.get? b = some o) → Q (.ref s.heap.objs.size) { s with heap := h', toks := tk }) :
    wpAny (model P w) A (call (.type "set") [.ref l]) Q E s := by
  have hsz : items.size = ns.length := by
    have q := IntsAre.length hit
    rwa [Array.length_toList] at q
  obtain ⟨c, tl, hmro⟩ := F.called_set.mro
  have hmade := F.called_set.made
  have hsub := F.called_set.sub
  refine wpAny_call (codeAny_of_tree ?_)
  show wpAny _ _ (callAny (.type "set") _) _ _ _
  refine wpAny_pure ⟨Code.quiet_builtin _ (by decide +kernel), codeAny_builtin F.entry_type_call ?_⟩
  rw [Around.under_plain (weight_type_call_type "set" [.ref l] []) rfl]
  have g1 := F.called_set.notType
  have g2 := F.called_set.canCreate
  have g3 := F.typeCall_set_1 (.ref l)
  repeat (any_goals (first | assumption | wp_step))
  refine codeAny_mono (code_set_led1 (.ref l) (E := E) (Q₁ := fun obj s₁ => obj = .ref s.heap.objs.size ∧ s₁ = { s with heap := s.heap.push (emp w) }) ⟨rfl, rfl⟩) fun r s₁ hr => ?_
  cases r with
  | error e => exact hr
  | ok fl =>
    cases fl <;> try exact hr.elim
    case ret obj =>
      obtain ⟨rfl, rfl⟩ := hr
      have hS : (s.heap.push (emp w)).get? s.heap.objs.size = some (emp w) := Heap.get?_push_size _ rfl
      have hT : Shared.TypeIs { s with heap := s.heap.push (emp w) } (.ref s.heap.objs.size) "set" := ⟨_, hS, rfl⟩
      have k1 := F.called_set.init.lookup
      have k2 := F.called_set.init.bind (.ref s.heap.objs.size)
      repeat (any_goals (first | assumption | wp_step))
      refine codeAny_mono (codeAny_call_builtin (R := wants (fun r s₂ => r = .none ∧ ∃ h' tk c, s₂ = { s with heap := h', toks := tk } ∧ SetR w h' s.heap.objs.size (fun j => decide (j ∈ ns)) c ∧ c ≤ ns.length ∧
          (∀ b o, s.heap.get? b = some o → h'.get? b = some o)) E) F.called_set.init.plain F.entry_set_init (check_set_init_1 hT ?_)) fun r₂ s₂ hr₂ => ?_
      · obtain ⟨⟨ocls, odict, odata, oslots⟩, hol, hcl, nl, hdl⟩ := hl
        simp only at hcl hdl
        subst hcl; subst hdl
        have hlS : l < s.heap.objs.size := Heap.lt_size hol
        have hl1 : (s.heap.push (emp w)).get? l = some { cls := .type "list", dict := odict, data := .seq items nl, slots := oslots } := Heap.get?_push_of_some _ hol
        have hL : (s.heap.push (emp w)).IsList l items := ⟨_, hl1, rfl, nl, rfl⟩
        have j1 := F.sub_list_set
        have j2 := F.sub_list_frozenset
        have j3 : (Value.type "list" == Value.type "dict") = false := by decide
        unfold Builtin.«set.__init__» noKeywords Builtin.Frozenset.updateFrom
        generalize hPI : pyIter = PI
        wp_walk
        subst hPI
        refine wpAny_pyIter_list hL (wpAny_bind (wpAny_runValue ?_))
        have hz : (s.heap.push (emp w)).objs.size = s.heap.objs.size + 1 := Heap.size_push ..
        have n1 : l ≠ (s.heap.push (emp w)).objs.size := by rw [hz]; exact Nat.ne_of_lt (Nat.lt_succ_of_lt hlS)
        have n2 : s.heap.objs.size ∉ [(s.heap.push (emp w)).objs.size, l] := by
          rw [hz]
          simp only [List.mem_cons, List.not_mem_nil, or_false, not_or]
          exact ⟨Nat.ne_of_lt (Nat.lt_succ_self _), Nat.ne_of_gt hlS⟩
        have hval : ∀ (i : Nat) (v : Value), items[i]? = some v → ∃ k t, ns[i]? = some k ∧ v = .int k t := fun i v hv => by
          have hi : i < ns.length := by rw [← hsz]; exact (Array.getElem?_eq_some_iff.mp hv).1
          obtain ⟨t, e⟩ := IntsAre.int_at hit i v (by rw [Array.getElem?_toList]; exact hv)
          refine ⟨ns[i], t, List.getElem?_eq_getElem hi, ?_⟩
          rw [e, List.getD_eq_getElem?_getD, List.getElem?_eq_getElem hi] <;> rfl
        have h3 : A.in1.in1.in1.handled = none := by simp [hh]
        refine set_update_ints ((Walks.list h3 _ l n1 items).toS) s.heap.objs.size n2 ns hsz hb hval (items.size - 0) 0 _ (by omega) (Nat.zero_le _)
          ⟨⟨_, Heap.get?_push_size _ rfl, rfl, rfl⟩, (hL.push _)⟩ ⟨0, Nat.le_refl 0, setR_new_at (Heap.get?_push_of_some _ hS)⟩ ?_
        intro s' c' hm hc' hS'
        obtain ⟨h', g4, d', tk', os'⟩ := s'
        have eg : g4 = s.gens := hm.gens
        have ed : d' = s.drawn := hm.drawn
        have eo : os' = s.os := hm.os
        subst eg ed eo
        show wpAny _ _ _ _ _ _
        refine wpAny_pure ?_
        show wpAny _ _ (ret Value.none) _ _ _
        rw [hsz] at hc'
        refine wpAny_pure ⟨rfl, h', tk', c', rfl, hS', hc', fun b o e => ?_⟩
        have b0 : b < s.heap.objs.size := Heap.lt_size e
        exact hm.heap b o (by
          simp only [List.mem_cons, List.not_mem_nil, or_false, not_or]
          exact ⟨Nat.ne_of_lt b0, by rw [hz]; exact Nat.ne_of_lt (Nat.lt_succ_of_lt b0)⟩) (Heap.get?_push_of_some _ (Heap.get?_push_of_some _ e))
      · cases r₂ with
        | error e => exact hr₂
        | ok fl₂ =>
          cases fl₂ <;> try exact hr₂.elim
          case ret r =>
            obtain ⟨rfl, h', tk, c', rfl, hS', hc', hk'⟩ := hr₂
            repeat (any_goals (first | assumption | wp_step))
            exact h _ _ _ hS' hc' hk'
end
/-- set(l), the list l of ints -/
def rSetL (K : PySem.W.Frag) (w : World) : List V → Hp → VK → Prop := fun vs H Q => ∃ (a : Addr) (ns : List Int), vs = [V.ref a] ∧ (SqL K H a (ns.map V.int)) ∧ ns.length < 1000 ∧ ∀ c p, c ≤ ns.length → H p = none → Q (.ref p) (upd H p (SetO w p (fun j => decide (j ∈ ns)) c))
theorem cr_setL {X : Cx} (hc : X.calm = true) : CallR X (.type "set") (rSetL X.K X.w) := by
  intro pins s σ H vs us Q I r h
  obtain ⟨a, ns, rfl, hs, hl, q⟩ := h
  obtain ⟨its, rv, pl, hz⟩ := I.list hs
  rw [Vals.ref1 r]
  have hn : H s.heap.objs.size = none := I.hok.fresh (Nat.le_refl _)
  refine set_of_list ns (I.ok.hd hc) pl.isList (by simpa using intsAre_of rv) (by unfold scanBound; omega) fun h' tk c R hcn k => ?_
  exact ⟨.ref s.heap.objs.size, _, I.laid (t' := tk) k (Nat.le_refl _) (setO_new R), rfl, q c _ hcn hn⟩
end ZS
set_option Elab.async false
set_option linter.all false
set_option autoImplicit false
set_option maxRecDepth 100000
/-! Z17: sorting. -/
namespace Z
open PySem PySem.Spec PyProof.Rows L2

/-! ### by insertion -/
section
variable {α β : Type}
def insL (le : α → α → Bool) (a : α) : List α → List α
  | [] => [a]
  | b :: l => if le a b then a :: b :: l else b :: insL le a l
def srtL (le : α → α → Bool) : List α → List α
  | [] => []
  | a :: l => insL le a (srtL le l)
theorem insL_at {le : α → α → Bool} {a : α} : ∀ {l1 l2 : List α}, (∀ b ∈ l1, (!le a b) = true) → (∀ b ∈ l2.head?, le a b = true) → insL le a (l1 ++ l2) = l1 ++ a :: l2
  | [], [], _, _ => rfl
  | [], b :: l2, _, h => by
    show (if le a b then a :: b :: l2 else b :: insL le a l2) = a :: b :: l2
    rw [if_pos (h b rfl)]
  | c :: l1, l2, h1, h2 => by
    show (if le a c then a :: c :: (l1 ++ l2) else c :: insL le a (l1 ++ l2)) = c :: (l1 ++ a :: l2)
    have q := h1 c (List.mem_cons_self ..)
    rw [if_neg (by simpa using q), insL_at (fun b hb => h1 b (List.mem_cons_of_mem _ hb)) h2]
theorem srtL_eq {le : α → α → Bool} (tr : ∀ a b c : α, le a b → le b c → le a c) (to : ∀ a b : α, le a b || le b a) : ∀ l : List α, srtL le l = l.mergeSort le
  | [] => by simp [srtL]
  | a :: l => by
    obtain ⟨l1, l2, e1, e2, h⟩ := List.mergeSort_cons tr to a l
    show insL le a (srtL le l) = _
    rw [srtL_eq tr to l, e2, e1]
    refine insL_at h fun b hb => ?_
    have s := List.pairwise_mergeSort tr to (a :: l)
    rw [e1, List.pairwise_append] at s
    have s2 := s.2.1
    rw [List.pairwise_cons] at s2
    cases l2 with
    | nil => cases hb
    | cons c l2 =>
      cases hb
      exact s2.1 b (List.mem_cons_self ..)
theorem insL_map {le : α → α → Bool} {le' : β → β → Bool} {f : α → β} (h : ∀ a b, le a b = le' (f a) (f b)) (a : α) : ∀ l : List α, (insL le a l).map f = insL le' (f a) (l.map f)
  | [] => rfl
  | b :: l => by
    show (if le a b then a :: b :: l else b :: insL le a l).map f = if le' (f a) (f b) then f a :: f b :: l.map f else f b :: insL le' (f a) (l.map f)
    rw [h a b]
    split
    · rfl
    · rw [List.map_cons, insL_map h a l]
theorem srtL_map {le : α → α → Bool} {le' : β → β → Bool} {f : α → β} (h : ∀ a b, le a b = le' (f a) (f b)) : ∀ l : List α, (srtL le l).map f = srtL le' (l.map f)
  | [] => rfl
  | a :: l => by
    show (insL le a (srtL le l)).map f = insL le' (f a) (srtL le' (l.map f))
    rw [insL_map h, srtL_map h l]
theorem mem_insL {le : α → α → Bool} {a x : α} : ∀ {l : List α}, x ∈ insL le a l ↔ x = a ∨ x ∈ l
  | [] => by simp [insL]
  | b :: l => by
    unfold insL
    split
    · simp
    · rw [List.mem_cons, mem_insL, List.mem_cons]
      constructor
      · rintro (h | h | h)
        · exact .inr (.inl h)
        · exact .inl h
        · exact .inr (.inr h)
      · rintro (h | h | h)
        · exact .inr (.inl h)
        · exact .inl h
        · exact .inr (.inr h)
theorem mem_srtL {le : α → α → Bool} {x : α} : ∀ {l : List α}, x ∈ srtL le l ↔ x ∈ l
  | [] => Iff.rfl
  | a :: l => by
    show x ∈ insL le a (srtL le l) ↔ _
    rw [mem_insL, mem_srtL, List.mem_cons]
theorem len_insL {le : α → α → Bool} {a : α} : ∀ {l : List α}, (insL le a l).length = l.length + 1
  | [] => rfl
  | b :: l => by
    unfold insL
    split
    · rfl
    · rw [List.length_cons, len_insL, List.length_cons]
theorem len_srtL {le : α → α → Bool} : ∀ {l : List α}, (srtL le l).length = l.length
  | [] => rfl
  | a :: l => by
    show (insL le a (srtL le l)).length = _
    rw [len_insL, len_srtL, List.length_cons]
end
/-! ### data in order -/
def dP (d : D) : PyData := (toP d).getD .none
def leP (a b : PyData) : Bool := !PySem.W.dataLt b a
def leD (a b : D) : Bool := leP (dP a) (dP b)
theorem leD_tot : PySem.W.TotalLe (PySem.W.dataLe (β := D) false dP) := PySem.W.sortLe_total _ _ _
theorem leD_eq (a b : D) : leD a b = PySem.W.dataLe false dP a b := rfl
/-- may be sorted -/
def likeAll : List PyData → Bool
  | [] => true
  | p :: ps => PySem.W.alike p p && ps.all (fun q => PySem.W.alike p q && PySem.W.alike q p) && likeAll ps
def isTupC : PyData → Bool
  | .tuple (_ :: _) => true
  | _ => false
def isPln : PyData → Bool
  | .none => false
  | .tuple _ => false
  | _ => true
def okSrt (ps : List PyData) : Bool := likeAll ps && ((ps.all isTupC || ps.all isPln) && ps.all fun p => decide (p.depth < 50))
theorem likeAll_ok : ∀ {ps : List PyData}, likeAll ps = true → PySem.W.AllAlike ps
  | [], _ => fun d hd => by cases hd
  | p :: ps, h => by
    simp only [likeAll, Bool.and_eq_true, List.all_eq_true] at h
    obtain ⟨⟨h1, h2⟩, h3⟩ := h
    intro d hd d' hd'
    rcases List.mem_cons.mp hd with e | hd
    · rcases List.mem_cons.mp hd' with e' | hd'
      · rw [e, e']; exact h1
      · rw [e]; exact (h2 d' hd').1
    · rcases List.mem_cons.mp hd' with e' | hd'
      · rw [e']; exact (h2 d hd).2
      · exact likeAll_ok h3 d hd d' hd'
theorem okSrt_ok {ps : List PyData} (h : okSrt ps = true) : PySem.W.AllAlike ps ∧ PySem.W.Sortable ps ∧ ∀ p ∈ ps, p.depth < 50 := by
  simp only [okSrt, Bool.and_eq_true, Bool.or_eq_true, List.all_eq_true, decide_eq_true_eq] at h
  obtain ⟨h1, h2, h3⟩ := h
  refine ⟨likeAll_ok h1, ?_, h3⟩
  rcases h2 with h2 | h2
  · refine .inl fun d hd => ?_
    have q := h2 d hd
    cases d <;> try cases q
    case tuple xs =>
      cases xs with
      | nil => cases q
      | cons x r => exact ⟨x, r, rfl⟩
  · refine .inr fun d hd => ?_
    have q := h2 d hd
    refine ⟨fun e => ?_, fun xs e => ?_⟩
    · subst e; cases q
    · subst e; cases q
theorem toPs_map : ∀ {ds : List D} {ps : List PyData}, toPs ds = some ps → ds.map dP = ps
  | [], ps, h => by cases h; rfl
  | d :: ds, ps, h => by
    have h : (match toP d with
      | some p => match toPs ds with
        | some ps => some (p :: ps)
        | none => none
      | none => none) = some ps := h
    cases q : toP d with
    | none => rw [q] at h; cases h
    | some p =>
      rw [q] at h
      have h : (match toPs ds with
        | some ps => some (p :: ps)
        | none => none) = some ps := h
      cases q2 : toPs ds with
      | none => rw [q2] at h; cases h
      | some qs =>
        rw [q2] at h
        cases h
        rw [List.map_cons, toPs_map q2]
        have e : dP d = p := by unfold dP; rw [q]; rfl
        rw [e]
section
variable {X : Cx} {W : Wd} {H : Hp} {m : Nat → Addr} {n : Nat}
/-- a list of pairs: the D's and the V's -/
theorem relDs_pairs : ∀ {ds : List D} {vs : List V}, RelDs W H m n ds vs → ∃ bs : List (D × V), bs.map (·.1) = ds ∧ bs.map (·.2) = vs ∧ ∀ p ∈ bs, RelD W H m n p.1 p.2
  | [], vs, h => by
    unfold RelDs at h
    exact ⟨[], rfl, h.symm, fun p hp => by cases hp⟩
  | d :: ds, vs, h => by
    unfold RelDs at h
    obtain ⟨u, us, e, r, rs⟩ := h
    obtain ⟨bs, e1, e2, e3⟩ := relDs_pairs rs
    refine ⟨(d, u) :: bs, by rw [List.map_cons, e1], by rw [List.map_cons, e2, e], fun p hp => ?_⟩
    rcases List.mem_cons.mp hp with z | z
    · rw [z]; exact r
    · exact e3 p z
theorem pairs_relDs : ∀ {bs : List (D × V)}, (∀ p ∈ bs, RelD W H m n p.1 p.2) → RelDs W H m n (bs.map (·.1)) (bs.map (·.2))
  | [], _ => by
    show RelDs W H m n [] []
    unfold RelDs
    rfl
  | p :: bs, h => by
    show RelDs W H m n (p.1 :: bs.map (·.1)) (p.2 :: bs.map (·.2))
    unfold RelDs
    exact ⟨_, _, rfl, h p (List.mem_cons_self ..), pairs_relDs fun q hq => h q (List.mem_cons_of_mem _ hq)⟩
/-- the values of a list, in pairs -/
theorem each_of : ∀ {bs : List (D × V)} {us : List Value}, Vals (bs.map (·.2)) us → PySem.W.EachIs (fun (v : Value) (p : D × V) => L2.RelV p.2 v) us bs
  | [], _, r => by
    cases r
    exact .nil
  | p :: bs, _, r => by
    cases r with
    | cons h t => exact .cons h (each_of t)
theorem vals_of_each : ∀ {bs : List (D × V)} {us : List Value}, PySem.W.EachIs (fun (v : Value) (p : D × V) => L2.RelV p.2 v) us bs → Vals (bs.map (·.2)) us
  | _, _, .nil => .nil
  | _, _, .cons h t => .cons h (vals_of_each t)
theorem dps_mem : ∀ {ds : List D} {ps : List PyData}, toPs ds = some ps → ∀ d ∈ ds, toP d = some (dP d)
  | [], _, _, d, hd => by cases hd
  | e :: ds, ps, h, d, hd => by
    have h : (match toP e with
      | some p => match toPs ds with
        | some ps => some (p :: ps)
        | none => none
      | none => none) = some ps := h
    cases q : toP e with
    | none => rw [q] at h; cases h
    | some p =>
      rw [q] at h
      have h : (match toPs ds with
        | some ps => some (p :: ps)
        | none => none) = some ps := h
      cases q2 : toPs ds with
      | none => rw [q2] at h; cases h
      | some qs =>
        rcases List.mem_cons.mp hd with z | z
        · rw [z]
          unfold dP
          rw [q]
          rfl
        · exact dps_mem q2 d z
/-- the sorted list: what the layer gives of it -/
theorem sorted_list {pins : List (Addr × Obj)} {σ : St} {s : Shared} {a : Addr} {ds : List D} {vs : List V} {ps : List PyData} {E1 : Value → Shared → Prop} {Q : Value → Shared → Prop} (hK : X.K = W.K) (hu : X.A.units + 64 < cLine) (I : Inv X pins σ H s) (hl : SqL X.K H a vs) (r : RelDs W H m n ds vs)
    (hp : toPs ds = some ps) (ok : okSrt ps = true) (h : ∀ p us s', H p = none → RelDs W H m n (srtL leD ds) us → us.length ≤ sizeLine → Inv X pins σ (upd H p (.lst us)) s' → Q (.ref p) s') : wpAny (model X.prog X.w) X.A (call (.builtin "sorted") [.ref a]) Q E1 s := by
  obtain ⟨its, rv, pl, hz⟩ := I.list hl
  obtain ⟨bs, e1, e2, e3⟩ := relDs_pairs r
  obtain ⟨o1, o2, o3⟩ := okSrt_ok ok
  have em : bs.map (fun p => dP p.1) = ps := by
    have z := toPs_map hp
    rw [← e1, List.map_map] at z
    exact z
  have hlen : bs.length = vs.length := by rw [← e2, List.length_map]
  have ev : PySem.W.EachIs (fun (v : Value) (p : D × V) => L2.RelV p.2 v) its bs := each_of (by rw [e2]; exact rv)
  have er : PySem.W.EachIs (fun (v : Value) (p : D × V) => ∃ as, Reads s.heap v (dP p.1) as) its bs := by
    have key : ∀ {us : List Value} {bs : List (D × V)}, (∀ p ∈ bs, RelD W H m n p.1 p.2) → (∀ p ∈ bs, toP p.1 = some (dP p.1)) → PySem.W.EachIs (fun (v : Value) (p : D × V) => L2.RelV p.2 v) us bs → PySem.W.EachIs (fun (v : Value) (p : D × V) => ∃ as, Reads s.heap v (dP p.1) as) us bs := by
      intro us bs h1 h2 h
      induction h with
      | nil => exact .nil
      | @cons u p us bs hu t ih =>
        refine .cons ?_ (ih (fun q hq => h1 q (List.mem_cons_of_mem _ hq)) fun q hq => h2 q (List.mem_cons_of_mem _ hq))
        have d := dp_of p.1 p.2 _ (h1 p (List.mem_cons_self ..)) (h2 p (List.mem_cons_self ..))
        rw [← hK] at d
        exact Dp.reads I _ _ _ d hu
    exact key e3 (fun p hp2 => dps_mem hp p.1 (by rw [← e1]; exact List.mem_map_of_mem hp2)) ev
  have sq : bs.mergeSort (PySem.W.dataLe false fun p : D × V => dP p.1) = srtL (fun p q => leD p.1 q.1) bs := by
    have t := (PySem.W.sortLe_total _ false _ : PySem.W.TotalLe (PySem.W.dataLe (β := D × V) false fun p => dP p.1))
    exact (srtL_eq (fun a b c => t.trans a b c) (fun a b => by rw [Bool.or_eq_true]; exact t.total a b) bs).symm
  refine PySem.W.sorted_data (enc := fun p : D × V => dP p.1) (R := fun v p => L2.RelV p.2 v) (bs := bs) pl.isList ev er (by rw [em]; exact o1) (by rw [em]; exact o2) (by rw [hlen]; exact hz) (fun p hp2 => ?_) fun out hol eo => ?_
  · have z := o3 (dP p.1) (by rw [← em]; exact List.mem_map_of_mem hp2)
    omega
  · rw [sq] at eo
    have vo := vals_of_each eo
    have rl : RelDs W H m n (srtL leD ds) ((srtL (fun p q : D × V => leD p.1 q.1) bs).map (·.2)) := by
      have z := pairs_relDs (W := W) (H := H) (m := m) (n := n) (bs := srtL (fun p q : D × V => leD p.1 q.1) bs) fun p hp2 => e3 p (mem_srtL.mp hp2)
      rw [srtL_map (le := fun p q : D × V => leD p.1 q.1) (f := fun p : D × V => p.1) (le' := leD) (fun a b => rfl), e1] at z
      exact z
    have hl2 : ((srtL (fun p q : D × V => leD p.1 q.1) bs).map (·.2)).length ≤ sizeLine := by rw [List.length_map, len_srtL, hlen]; exact hz
    have hn : H (s.heap.objs.size + 1) = none := I.hok.fresh (Nat.le_succ _)
    obtain ⟨ee, he⟩ := sortedAll_at s.heap its out.toArray
    refine h _ _ _ hn rl hl2 (I.laid (t' := s.toks) (fun b o e => sortedAll_old e) (Nat.le_succ _) ⟨hl2, out, ee, vo, he⟩)
end
end Z
set_option Elab.async false
set_option linter.all false
set_option autoImplicit false
set_option maxRecDepth 100000
/-! Z18: built-ins by values. -/
namespace Z
open PySem PySem.Spec PyProof.Rows L2

def on1 (f : D → Option (D × Sto)) : List D → Option (D × Sto)
  | [d] => f d
  | _ => none
def on2 (f : D → D → Option (D × Sto)) : List D → Option (D × Sto)
  | [a, b] => f a b
  | _ => none
def lenD (S : Sto) : D → Option (D × Sto)
  | .str x => if x.length ≤ 1000000 then some (.int x.length, S) else none
  | .tup ds => some (.int ds.length, S)
  | .ktp ds => some (.int ds.length, S)
  | .sq ds => some (.int ds.length, S)
  | .loc k => match S.get k with
    | some (.lst ds) => some (.int ds.length, S)
    | some (.dk ps) => some (.int ps.length, S)
    | some (.dt ps) => some (.int ps.length, S)
    | _ => none
  | _ => none
def opLen : OpA := fun as S => on1 (lenD S) as
def blsD : List D → Option (List Bool)
  | [] => some []
  | .bl b :: ds => match blsD ds with
    | some bs => some (b :: bs)
    | none => none
  | _ => none
/-- a list that is read -/
def rdL (S : Sto) : D → Option (List D)
  | .sq ds => some ds
  | .loc k => match S.get k with
    | some (.lst ds) => some ds
    | _ => none
  | _ => none
def onL (f : List D → Option (D × Sto)) (S : Sto) (d : D) : Option (D × Sto) := match rdL S d with
  | some ds => f ds
  | none => none
def allD (g : List Bool → Bool) (S : Sto) (ds : List D) : Option (D × Sto) := match blsD ds with
  | some bs => some (.bl (g bs), S)
  | none => none
def sumD (S : Sto) (ds : List D) : Option (D × Sto) := match intsD ds with
  | some is => some (.int is.sum, S)
  | none => none
def srtD (S : Sto) (ds : List D) : Option (D × Sto) := match toPs ds with
  | some ps => if okSrt ps then some (.loc S.n, S.push (.lst (srtL leD ds))) else none
  | none => none
def opAll (g : List Bool → Bool) : OpA := fun as S => on1 (onL (allD g S) S) as
def opSum : OpA := fun as S => on1 (onL (sumD S) S) as
def opSorted : OpA := fun as S => on1 (onL (srtD S) S) as
def ii (f : Int → Int → Int) (S : Sto) : D → D → Option (D × Sto)
  | .int i, .int j => some (.int (f i j), S)
  | _, _ => none
def opMax2 : OpA := fun as S => on2 (ii (fun i j => if j > i then j else i) S) as
def opMin2 : OpA := fun as S => on2 (ii (fun i j => if j < i then j else i) S) as
def absD (S : Sto) : D → Option (D × Sto)
  | .int i => some (.int (if i < 0 then -i else i), S)
  | _ => none
def opAbs : OpA := fun as S => on1 (absD S) as
def intD (S : Sto) : D → Option (D × Sto)
  | .int i => some (.int i, S)
  | .bl k => some (.int (if k then 1 else 0), S)
  | _ => none
def opInt : OpA := fun as S => on1 (intD S) as
def tupD (S : Sto) (d : D) : Option (D × Sto) := match d with
  | .tup ds => some (.tup ds, S)
  | d => onL (fun ds => some (.tup ds, S)) S d
def opTuple : OpA := fun as S => on1 (tupD S) as
def lstD (S : Sto) (d : D) : Option (D × Sto) := match seqD d with
  | some ds => some (.loc S.n, S.push (.lst ds))
  | none => onL (fun ds => some (.loc S.n, S.push (.lst ds))) S d
def opList : OpA := fun as S => on1 (lstD S) as
def okRep (p : PyData) : Bool := p.showable && (decide (p.depth < 20) && (decide (p.shown.length ≤ 1000000) && !p.hasDict))
def repD (S : Sto) (d : D) : Option (D × Sto) := match toPt S d with
  | some p => if okRep p then some (.str p.shown, S) else none
  | none => none
def opRepr : OpA := fun as S => on1 (repD S) as
section
variable {X : Cx} {W : Wd} {H : Hp} {m : Nat → Addr} {n : Nat}
theorem relDs_one {d : D} {xs : List V} (h : RelDs W H m n [d] xs) : ∃ v, xs = [v] ∧ RelD W H m n d v := by
  unfold RelDs at h
  obtain ⟨u, us, e, r, h⟩ := h
  unfold RelDs at h
  exact ⟨u, by rw [e, h], r⟩
theorem relDs_twoE {d e : D} {xs : List V} (h : RelDs W H m n [d, e] xs) : ∃ v u, xs = [v, u] ∧ RelD W H m n d v ∧ RelD W H m n e u := by
  unfold RelDs at h
  obtain ⟨u, us, e1, r, h⟩ := h
  obtain ⟨v, e2, r2⟩ := relDs_one h
  exact ⟨u, v, by rw [e1, e2], r, r2⟩
theorem rdL_ok {S : Sto} (rs : RelS W H m S) {d : D} {ds : List D} {v : V} (h : rdL S d = some ds) (r : RelD W H m S.n d v) : ∃ a vs, v = .ref a ∧ SqL W.K H a vs ∧ RelDs W H m S.n ds vs := by
  cases d <;> try cases h
  case sq.refl =>
    obtain ⟨a, vs, e, t, ru⟩ := relD_sqE r
    exact ⟨a, vs, e, t.sq, ru⟩
  case loc k =>
    obtain ⟨_, e⟩ := relD_locE r
    have h : (match S.get k with
      | some (.lst ds) => some ds
      | _ => none) = some ds := h
    split at h
    · rename_i es hk
      cases h
      obtain ⟨vs, hm, ru⟩ := rs.lst hk
      exact ⟨_, vs, e, SqL.of hm, ru⟩
    · cases h
theorem blsD_ok : ∀ {ds : List D} {vs : List V} {bs : List Bool}, RelDs W H m n ds vs → blsD ds = some bs → vs = bs.map V.bl
  | [], vs, bs, h, e => by
    unfold RelDs at h
    cases e
    exact h
  | d :: ds, vs, bs, h, e => by
    unfold RelDs at h
    obtain ⟨u, us, e1, r, rs⟩ := h
    cases d <;> try cases e
    rename_i b
    have e : (match blsD ds with
      | some bs => some (b :: bs)
      | none => none) = some bs := e
    cases q : blsD ds with
    | none => rw [q] at e; cases e
    | some cs =>
      rw [q] at e
      cases e
      rw [e1, relD_bl r, blsD_ok rs q, List.map_cons]
theorem on1_ok {f : D → Option (D × Sto)} {as : List D} {xs : List V} {Q : VK} (ra : RelDs W H m n as xs) (p : PostO W (RelD W) H m n (on1 f as) Q) : ∃ d v, xs = [v] ∧ RelD W H m n d v ∧ PostO W (RelD W) H m n (f d) Q := by
  cases as with
  | nil => exact p.elim
  | cons a as =>
    cases as with
    | cons b as => exact p.elim
    | nil =>
      obtain ⟨v, ex, rv⟩ := relDs_one ra
      exact ⟨a, v, ex, rv, p⟩
theorem on2_ok {f : D → D → Option (D × Sto)} {as : List D} {xs : List V} {Q : VK} (ra : RelDs W H m n as xs) (p : PostO W (RelD W) H m n (on2 f as) Q) : ∃ d e v u, xs = [v, u] ∧ RelD W H m n d v ∧ RelD W H m n e u ∧ PostO W (RelD W) H m n (f d e) Q := by
  cases as with
  | nil => exact p.elim
  | cons a as =>
    cases as with
    | nil => exact p.elim
    | cons b as =>
      cases as with
      | cons c as => exact p.elim
      | nil =>
        obtain ⟨v, u, ex, r1, r2⟩ := relDs_twoE ra
        exact ⟨a, b, v, u, ex, r1, r2, p⟩
theorem onL_ok {f : List D → Option (D × Sto)} {S : Sto} {d : D} {v : V} {Q : VK} (rs : RelS W H m S) (r : RelD W H m S.n d v) (p : PostO W (RelD W) H m S.n (onL f S d) Q) : ∃ a vs ds, v = .ref a ∧ SqL W.K H a vs ∧ RelDs W H m S.n ds vs ∧ PostO W (RelD W) H m S.n (f ds) Q := by
  unfold onL at p
  cases q : rdL S d with
  | none => rw [q] at p; exact p.elim
  | some ds =>
    rw [q] at p
    obtain ⟨a, vs, e, t, ru⟩ := rdL_ok rs q r
    exact ⟨a, vs, ds, e, t, ru, p⟩
theorem c_len (hK : X.K = W.K) : CallR X (.builtin "len") (rOpA W opLen) := by
  intro pins s σ H xs us Q I r h
  obtain ⟨m, S, as, rs, ra, p⟩ := h
  obtain ⟨a, v, ex, rv, p⟩ := on1_ok ra p
  subst ex
  cases a <;> try exact p.elim
  case str x =>
    cases relD_str rv
    have p : PostO W (RelD W) H m S.n (if x.length ≤ 1000000 then some (.int x.length, S) else none) Q := p
    by_cases hl : x.length ≤ 1000000
    · rw [if_pos hl] at p
      exact call_len pins s σ H _ us Q I r ⟨_, x.length, rfl, ⟨Nat.le_trans hl line1000000, rfl⟩, p.ret rs of_int⟩
    · rw [if_neg hl] at p
      exact p.elim
  case tup ds =>
    obtain ⟨a, vs, ea, t, ru⟩ := relD_tupE rv
    subst ea
    exact call_len pins s σ H _ us Q I r ⟨_, ds.length, rfl, .inr ⟨vs, by rw [hK]; exact t.sq, by rw [ru.len]⟩, p.ret rs of_int⟩
  case ktp ds =>
    obtain ⟨a, vs, ea, t, ru⟩ := relD_ktpE rv
    subst ea
    exact call_len pins s σ H _ us Q I r ⟨_, ds.length, rfl, .inr ⟨vs, by rw [hK]; exact t.sq, by rw [ru.len]⟩, p.ret rs of_int⟩
  case sq ds =>
    obtain ⟨a, vs, ea, t, ru⟩ := relD_sqE rv
    subst ea
    exact call_len pins s σ H _ us Q I r ⟨_, ds.length, rfl, .inl ⟨vs, by rw [hK]; exact t.sq, by rw [ru.len]⟩, p.ret rs of_int⟩
  case loc k =>
    obtain ⟨_, ea⟩ := relD_locE rv
    subst ea
    have p : PostO W (RelD W) H m S.n (match S.get k with
      | some (.lst ds) => some (.int ds.length, S)
      | some (.dk ps) => some (.int ps.length, S)
      | some (.dt ps) => some (.int ps.length, S)
      | _ => none) Q := p
    split at p
    · rename_i ds hk
      obtain ⟨vs, hm, ru⟩ := rs.lst hk
      exact call_len pins s σ H _ us Q I r ⟨_, ds.length, rfl, .inl ⟨vs, SqL.of hm, by rw [ru.len]⟩, p.ret rs of_int⟩
    · rename_i ps hk
      obtain ⟨vs, hm, ru⟩ := dk_own rs hk
      exact call_lenD pins s σ H _ us Q I r ⟨_, vs, rfl, hm, by rw [kvR_len ru]; exact p.ret rs of_int⟩
    · rename_i ps hk
      obtain ⟨vs, hm, ru⟩ := dt_own rs hk
      exact call_len_dT pins s σ H _ us Q I r ⟨_, vs, rfl, hm, by rw [kvR_len ru]; exact p.ret rs of_int⟩
    · exact p.elim
theorem allD_ok {g : List Bool → Bool} {S : Sto} {ds : List D} {vs : List V} {Q : VK} (rs : RelS W H m S) (ru : RelDs W H m S.n ds vs) (p : PostO W (RelD W) H m S.n (allD g S ds) Q) : ∃ bs, vs = bs.map V.bl ∧ Q (.bl (g bs)) H := by
  unfold allD at p
  cases q : blsD ds with
  | none => rw [q] at p; exact p.elim
  | some bs =>
    rw [q] at p
    exact ⟨bs, blsD_ok ru q, p.ret rs of_bl⟩
theorem c_all (hK : X.K = W.K) (hc : X.calm = true) : CallR X (.builtin "all") (rOpA W (opAll fun bs => bs.all id)) := by
  intro pins s σ H xs us Q I r h
  obtain ⟨m, S, as, rs, ra, p⟩ := h
  obtain ⟨d, v, ex, rv, p⟩ := on1_ok ra p
  obtain ⟨a, vs, ds, ev, t, ru, p⟩ := onL_ok rs rv p
  obtain ⟨bs, eb, q⟩ := allD_ok rs ru p
  subst ev ex eb
  exact cr_all hc pins s σ H _ us Q I r ⟨a, bs, rfl, by rw [hK]; exact t, q⟩
theorem c_any (hK : X.K = W.K) (hc : X.calm = true) : CallR X (.builtin "any") (rOpA W (opAll fun bs => bs.any id)) := by
  intro pins s σ H xs us Q I r h
  obtain ⟨m, S, as, rs, ra, p⟩ := h
  obtain ⟨d, v, ex, rv, p⟩ := on1_ok ra p
  obtain ⟨a, vs, ds, ev, t, ru, p⟩ := onL_ok rs rv p
  obtain ⟨bs, eb, q⟩ := allD_ok rs ru p
  subst ev ex eb
  exact cr_any hc pins s σ H _ us Q I r ⟨a, bs, rfl, by rw [hK]; exact t, q⟩
theorem c_sum (hK : X.K = W.K) (hc : X.calm = true) : CallR X (.builtin "sum") (rOpA W opSum) := by
  intro pins s σ H xs us Q I r h
  obtain ⟨m, S, as, rs, ra, p⟩ := h
  obtain ⟨d, v, ex, rv, p⟩ := on1_ok ra p
  obtain ⟨a, vs, ds, ev, t, ru, p⟩ := onL_ok rs rv p
  unfold sumD at p
  cases q : intsD ds with
  | none => rw [q] at p; exact p.elim
  | some is =>
    rw [q] at p
    have e := intsD_ok ru q
    subst ev ex e
    exact cr_sum hc pins s σ H _ us Q I r ⟨a, is, rfl, by rw [hK]; exact t, p.ret rs of_int⟩
theorem c_sorted (hK : X.K = W.K) (hu : X.A.units + 64 < cLine) : CallR X (.builtin "sorted") (rOpA W opSorted) := by
  intro pins s σ H xs us Q I r h
  obtain ⟨m, S, as, rs, ra, p⟩ := h
  obtain ⟨d, v, ex, rv, p⟩ := on1_ok ra p
  obtain ⟨a, vs, ds, ev, t, ru, p⟩ := onL_ok rs rv p
  unfold srtD at p
  cases q : toPs ds with
  | none => rw [q] at p; exact p.elim
  | some ps =>
    rw [q] at p
    dsimp only at p
    by_cases ho : okSrt ps = true
    · rw [if_pos ho] at p
      subst ev ex
      rw [Vals.ref1 r]
      refine sorted_list hK hu I (by rw [hK]; exact t) ru q ho fun pp us' s' hp rl hz J => ?_
      exact ⟨.ref pp, _, J, rfl, p.newS (o := .lst us') rs hp ⟨us', rfl, rl⟩ relD_loc⟩
    · rw [if_neg ho] at p
      exact p.elim
theorem ii_ok {f : Int → Int → Int} {S : Sto} {a b : D} {v u : V} {Q : VK} (rs : RelS W H m S) (r1 : RelD W H m S.n a v) (r2 : RelD W H m S.n b u) (p : PostO W (RelD W) H m S.n (ii f S a b) Q) : ∃ i j, v = .int i ∧ u = .int j ∧ Q (.int (f i j)) H := by
  cases a <;> cases b <;> try exact p.elim
  case int.int i j => exact ⟨i, j, relD_int r1, relD_int r2, p.ret rs of_int⟩
theorem c_max2 (hc : X.calm = true) : CallR X (.builtin "max") (rOpA W opMax2) := by
  intro pins s σ H xs us Q I r h
  obtain ⟨m, S, as, rs, ra, p⟩ := h
  obtain ⟨a, b, v, u, ex, r1, r2, p⟩ := on2_ok ra p
  obtain ⟨i, j, e1, e2, q⟩ := ii_ok rs r1 r2 p
  subst e1 e2
  exact call_max2 hc pins s σ H xs us Q I r ⟨i, j, ex, q⟩
theorem c_min2 (hc : X.calm = true) : CallR X (.builtin "min") (rOpA W opMin2) := by
  intro pins s σ H xs us Q I r h
  obtain ⟨m, S, as, rs, ra, p⟩ := h
  obtain ⟨a, b, v, u, ex, r1, r2, p⟩ := on2_ok ra p
  obtain ⟨i, j, e1, e2, q⟩ := ii_ok rs r1 r2 p
  subst e1 e2
  exact call_min2 hc pins s σ H xs us Q I r ⟨i, j, ex, q⟩
theorem c_abs : CallR X (.builtin "abs") (rOpA W opAbs) := by
  intro pins s σ H xs us Q I r h
  obtain ⟨m, S, as, rs, ra, p⟩ := h
  obtain ⟨d, v, ex, rv, p⟩ := on1_ok ra p
  cases d <;> try exact p.elim
  case int i =>
    cases relD_int rv
    exact call_abs pins s σ H xs us Q I r ⟨i, ex, p.ret rs of_int⟩
theorem c_int : CallR X (.type "int") (rOpA W opInt) := by
  intro pins s σ H xs us Q I r h
  obtain ⟨m, S, as, rs, ra, p⟩ := h
  obtain ⟨d, v, ex, rv, p⟩ := on1_ok ra p
  cases d <;> try exact p.elim
  case int i =>
    cases relD_int rv
    exact call_int1 pins s σ H xs us Q I r (.inl ⟨i, ex, p.ret rs of_int⟩)
  case bl k =>
    cases relD_bl rv
    exact call_int1 pins s σ H xs us Q I r (.inr ⟨k, ex, p.ret rs of_int⟩)
theorem c_tuple (hK : X.K = W.K) : CallR X (.type "tuple") (rOpA W opTuple) := by
  intro pins s σ H xs us Q I r h
  obtain ⟨m, S, as, rs, ra, p⟩ := h
  obtain ⟨d, v, ex, rv, p⟩ := on1_ok ra p
  have gen : PostO W (RelD W) H m S.n (onL (fun ds => some (.tup ds, S)) S d) Q → wpAny (model X.prog X.w) X.A (call (.type "tuple") us) (EP X pins σ Q) X.xe s := fun p => by
    obtain ⟨a, vs, ds, ev, t, ru, p⟩ := onL_ok rs rv p
    subst ev
    exact call_tuple_of pins s σ H xs us Q I r ⟨a, vs, ex, .inl ⟨by rw [hK]; exact t, fun l hl => p.new rs hl (relD_tup rs hl ru)⟩⟩
  cases d <;> try exact gen p
  case tup ds =>
    obtain ⟨a, vs, ea, t, ru⟩ := relD_tupE rv
    subst ea
    exact call_tuple_of pins s σ H xs us Q I r ⟨a, vs, ex, .inr ⟨by rw [hK]; exact t.sq, p.ret rs (of_tup t ru)⟩⟩
theorem c_list (hK : X.K = W.K) : CallR X (.type "list") (rOpA W opList) := by
  intro pins s σ H xs us Q I r h
  obtain ⟨m, S, as, rs, ra, p⟩ := h
  obtain ⟨d, v, ex, rv, p⟩ := on1_ok ra p
  have p : PostO W (RelD W) H m S.n (lstD S d) Q := p
  unfold lstD at p
  cases q : seqD d with
  | some ds =>
    rw [q] at p
    obtain ⟨a, vs, ea, t, ru⟩ := seqD_ok q rv
    subst ea
    exact call_list_of pins s σ H xs us Q I r ⟨a, vs, ex, .inr (by rw [hK]; exact t _ _ _ Ext.refl), fun l hl => p.newS (o := .lst vs) rs hl ⟨vs, rfl, ru⟩ relD_loc⟩
  | none =>
    rw [q] at p
    obtain ⟨a, vs, ds, ev, t, ru, p⟩ := onL_ok rs rv p
    subst ev
    exact call_list_of pins s σ H xs us Q I r ⟨a, vs, ex, .inl (by rw [hK]; exact t), fun l hl => p.newS (o := .lst vs) rs hl ⟨vs, rfl, ru⟩ relD_loc⟩
theorem c_repr (hK : X.K = W.K) (hg : X.A.guards = some []) (hu : X.A.units + 64 < cLine) : CallR X (.builtin "repr") (rOpA W opRepr) := by
  intro pins s σ H xs us Q I r h
  obtain ⟨m, S, as, rs, ra, p⟩ := h
  obtain ⟨d, v, ex, rv, p⟩ := on1_ok ra p
  have p : PostO W (RelD W) H m S.n (repD S d) Q := p
  unfold repD at p
  cases q : toPt S d with
  | none => rw [q] at p; exact p.elim
  | some pd =>
    rw [q] at p
    dsimp only at p
    by_cases ho : okRep pd = true
    · rw [if_pos ho] at p
      have fin : Q (.str pd.shown) H := p.ret rs of_str
      simp only [okRep, Bool.and_eq_true, decide_eq_true_eq, Bool.not_eq_true'] at ho
      obtain ⟨h1, h2, h3, h4⟩ := ho
      have h3' := Nat.le_trans h3 line1000000
      have dp := dpt_of rs rv q
      rw [← hK] at dp
      subst ex
      obtain ⟨u, eu, ru⟩ := vals1 r
      subst eu
      obtain ⟨as', rd⟩ := Dp.reads I _ _ _ dp ru
      have done : ∀ (h' : Heap) (t : Tok) (tk : Nat), (∀ b o, s.heap.get? b = some o → h'.get? b = some o) → EP X pins σ Q (.str pd.shown t) { s with heap := h', toks := tk } := fun h' t tk k => ⟨.str pd.shown, H, I.kept k, ⟨t, rfl⟩, fin⟩
      cases u with
      | ref a => exact repr_of_reads' rd h1 (fun z => by rw [h4] at z; cases z) hg (by omega) (fun _ _ e => e) (fun h' t tk k => done h' t tk k) h3'
      | none =>
        cases rd
        exact P.repr_of_none (done s.heap _ _ fun _ _ e => e)
      | bool b =>
        cases rd
        exact P.repr_of_bool (done s.heap _ _ fun _ _ e => e)
      | int i t =>
        cases rd
        exact P.repr_of_int (by simpa [PyData.showable] using h1) (done s.heap _ _ fun _ _ e => e)
      | str x t =>
        cases rd
        exact P.repr_of_str (done s.heap _ _ fun _ _ e => e) h3'
      | _ => cases rd
    · rw [if_neg ho] at p
      exact p.elim
end
end Z
set_option Elab.async false
set_option linter.all false
set_option autoImplicit false
set_option maxRecDepth 100000
/-! Z19: methods of built-ins; str * int; sorted(set(..)). -/
namespace Z
open PySem PySem.Spec PyProof.Rows L2

/-! ### methods -/
abbrev OpM := D → List D → Sto → Option (D × Sto)
def rMt (W : Wd) (f : OpM) : V → List V → Hp → VK → Prop := fun x xs H Q => ∃ m S d ds, RelS W H m S ∧ RelD W H m S.n d x ∧ RelDs W H m S.n ds xs ∧ PostO W (RelD W) H m S.n (f d ds S) Q
/-- of which type's methods it has -/
def tyD (T : String) (S : Sto) : D → Bool
  | .str _ => T == "str"
  | .ktp _ => T == "tuple"
  | .sq _ => T == "list"
  | .loc k => match S.get k with
    | some (.lst _) => T == "list"
    | some (.dk _) => T == "dict"
    | some (.dt _) => T == "dict"
    | _ => false
  | _ => false
def fMeth (T : String) (f : OpM) (fo : FE) (fs : En → Sto → R (List D)) : FE := fun env S => (fo env S).bind fun d S1 => if tyD T S1 d then (fs env S1).bind fun ds S2 => R.of (f d ds S2) else .no
section
variable {X : Cx} {W : Wd} {H : Hp} {m : Nat → Addr} {n : Nat} {E : St → XK} {o e : Expr} {es : List Expr} {fo : FE} {fs : En → Sto → R (List D)}
theorem tyD_ok {T : String} {S : Sto} {d : D} {v : V} (rs : RelS W H m S) (r : RelD W H m S.n d v) (h : tyD T S d = true) : tyV W.K T v H := by
  cases d <;> try cases h
  case str x =>
    cases relD_str r
    exact eq_of_beq h
  case ktp ds =>
    obtain ⟨a, vs, ea, t, _⟩ := relD_ktpE r
    subst ea
    obtain ⟨ob, its, k, h1, h2, h3, _⟩ := t
    exact .inr (.inl ⟨eq_of_beq h, ob, h1, h2, h3⟩)
  case sq ds =>
    obtain ⟨a, vs, ea, t, _⟩ := relD_sqE r
    subst ea
    exact .inl ⟨eq_of_beq h, vs, t.sq⟩
  case loc k =>
    obtain ⟨_, ea⟩ := relD_locE r
    subst ea
    have h : (match S.get k with
      | some (.lst _) => T == "list"
      | some (.dk _) => T == "dict"
      | some (.dt _) => T == "dict"
      | _ => false) = true := h
    split at h
    · rename_i ds hk
      obtain ⟨vs, hm, _⟩ := rs.lst hk
      exact .inl ⟨eq_of_beq h, vs, SqL.of hm⟩
    · rename_i ds hk
      obtain ⟨vs, hm, _⟩ := dk_own rs hk
      exact .inr (.inr (.inl ⟨eq_of_beq h, .inl ⟨vs, hm⟩⟩))
    · rename_i ds hk
      obtain ⟨vs, hm, _⟩ := dt_own rs hk
      exact .inr (.inr (.inl ⟨eq_of_beq h, .inr ⟨vs, hm⟩⟩))
    · cases h
theorem z_meth {T id : String} {name : Str} {apos cpos : Pos} {f : OpM} (hK : X.K = W.K) (pa : PlainAttrs T) (slot : Slot T name id) (hty : typeOf (.builtin id) = pure (.type "method_descriptor")) (hm : MtR X id (rMt W f)) (ho : PE X o (tE W E fo)) (ha : PA X (e :: es) (tA W E fs))
    (hbase : attributeBase o name X.env (eval o X.env) = eval o X.env)
    (hfew : ((backTo cpos (starEach (e :: es) X.env)).all (fun x => !x.1) && (backToKw cpos (keywordEach [] X.env)).all (fun x => x.1.isSome)
      && decide ((e :: es).length + ([] : List Keyword).length + (if ([] : List Keyword).isEmpty then 0 else 1) < 30)) = true)
    (hline : (apos.endLine == cpos.line) = true) (hs : starEach (e :: es) X.env = (false, eval e X.env) :: starEach es X.env) (hplain : (backTo cpos (starEach es X.env)).any (·.1) = false) :
    PE X (.Call (.Attribute o name apos) (e :: es) [] cpos) (tE W E (fMeth T f fo fs)) := by
  refine pe_imp (pe_bm pa slot hty hm ho ha hbase hfew hline hs hplain) fun σ H Q h => ?_
  refine (tG.seq (rl := RelD W) (g := fun env d S1 => if tyD T S1 d then (fs env S1).bind fun ds S2 => R.of (f d ds S2) else .no) h).mono fun x H1 q => ?_
  obtain ⟨env, m, S, d, h1, h2, h3, h4⟩ := q
  by_cases ht : tyD T S d = true
  · rw [if_pos ht] at h4
    refine ⟨by rw [hK]; exact tyD_ok h2 h3 ht, ?_⟩
    refine (tG.seq2 (rl := RelDs W) (rl0 := RelD W) (fun a v e r => RelD.ext e a v r) h1 h2 h3 h4).mono fun xs H2 q => ?_
    obtain ⟨m2, S2, ds, _, g2, g3, g4, g5⟩ := q
    exact ⟨m2, S2, d, ds, g2, g3, g4, g5.of⟩
  · rw [if_neg ht] at h4
    exact h4.elim

def appD (S : Sto) (d y : D) : Option (D × Sto) := match d with
  | .loc k => match S.get k with
    | some (.lst ds) => if ds.length < 1000000 then some (.non, S.set k (.lst (ds ++ [y]))) else none
    | _ => none
  | _ => none
def opAppend : OpM := fun d as S => on1 (appD S d) as
theorem m_append : MtR X "list.append" (rMt W opAppend) := by
  intro pins s σ H x xs v us Q I rx rv h
  obtain ⟨m, S, d, as, rs, rd, ra, p⟩ := h
  obtain ⟨y, w, ex, ry, p1⟩ := on1_ok ra p
  clear p
  revert p1
  intro p
  cases d <;> try exact p.elim
  case loc k =>
    obtain ⟨hk, ea⟩ := relD_locE rd
    have p : PostO W (RelD W) H m S.n (match S.get k with
      | some (.lst ds) => if ds.length < 1000000 then some (.non, S.set k (.lst (ds ++ [y]))) else none
      | _ => none) Q := p
    split at p
    · rename_i ds hg
      obtain ⟨vs, hm, ru⟩ := rs.lst hg
      by_cases hl : ds.length < 1000000
      · rw [if_pos hl] at p
        have wr : Wr (.lst vs) := trivial
        exact mt_append pins s σ H x xs v us Q I rx rv ⟨_, vs, w, ea, ex, hm, Nat.lt_of_lt_of_le (by rw [ru.len]; exact hl) line1000000, p.set (b := .lst (ds ++ [y])) rs hg hm wr ⟨_, rfl, relDs_snoc ru ry⟩ of_non⟩
      · rw [if_neg hl] at p
        exact p.elim
    · exact p.elim
def extD (S : Sto) (d y : D) : Option (D × Sto) := match d, y with
  | .loc k, .loc j => match S.get k, S.get j with
    | some (.lst ds), some (.lst es) => if ds.length + es.length ≤ 1000000 then some (.non, S.set k (.lst (ds ++ es))) else none
    | _, _ => none
  | _, _ => none
def opExtend : OpM := fun d as S => on1 (extD S d) as
theorem m_extend : MtR X "list.extend" (rMt W opExtend) := by
  intro pins s σ H x xs v us Q I rx rv h
  obtain ⟨m, S, d, as, rs, rd, ra, p⟩ := h
  obtain ⟨y, w, ex, ry, p1⟩ := on1_ok ra p
  clear p
  revert p1
  intro p
  cases d <;> cases y <;> try exact p.elim
  case loc.loc k j =>
    obtain ⟨hk, ea⟩ := relD_locE rd
    obtain ⟨hj, eb⟩ := relD_locE ry
    have p : PostO W (RelD W) H m S.n (match S.get k, S.get j with
      | some (.lst ds), some (.lst es) => if ds.length + es.length ≤ 1000000 then some (.non, S.set k (.lst (ds ++ es))) else none
      | _, _ => none) Q := p
    split at p
    · rename_i ds es hg hg2
      obtain ⟨vs, hm, ru⟩ := rs.lst hg
      obtain ⟨ws, hm2, ru2⟩ := rs.lst hg2
      by_cases hl : ds.length + es.length ≤ 1000000
      · rw [if_pos hl] at p
        have wr : Wr (.lst vs) := trivial
        subst eb
        exact mt_extend pins s σ H x xs v us Q I rx rv ⟨_, _, vs, ws, ea, ex, hm, hm2, Nat.le_trans (by rw [ru.len, ru2.len]; exact hl) line1000000, p.set (b := .lst (ds ++ es)) rs hg hm wr ⟨_, rfl, relDs_app ru ru2⟩ of_non⟩
      · rw [if_neg hl] at p
        exact p.elim
    · exact p.elim
/-- the first place of an equal one -/
def idxV (y : V) : List V → Option Nat
  | [] => none
  | z :: zs => if eqV z y then some 0 else match idxV y zs with
    | some j => some (j + 1)
    | none => none
theorem idxV_ok {y : V} : ∀ {ys : List V} {j : Nat}, idxV y ys = some j → ∃ z, ys[j]? = some z ∧ eqV z y = true ∧ ∀ (m : Nat) (z' : V), m < j → ys[m]? = some z' → eqV z' y = false
  | [], j, h => by cases h
  | z :: ys, j, h => by
    unfold idxV at h
    by_cases he : eqV z y = true
    · rw [if_pos he] at h
      cases h
      exact ⟨z, rfl, he, fun m z' hm => absurd hm (Nat.not_lt_zero _)⟩
    · rw [if_neg he] at h
      cases q : idxV y ys with
      | none => rw [q] at h; cases h
      | some i =>
        rw [q] at h
        cases h
        obtain ⟨w, h1, h2, h3⟩ := idxV_ok q
        refine ⟨w, by rw [List.getElem?_cons_succ]; exact h1, h2, fun m z' hm hz => ?_⟩
        cases m with
        | zero =>
          cases hz
          simpa using he
        | succ m => exact h3 m z' (Nat.lt_of_succ_lt_succ hm) (by rw [List.getElem?_cons_succ] at hz; exact hz)
def idxL (S : Sto) (d y : D) : Option (D × Sto) := match rdL S d with
  | some ds => match flD y, flDs ds with
    | some u, some vs => match idxV u vs with
      | some j => some (.int (j : Nat), S)
      | none => none
    | _, _ => none
  | none => none
def opIndexL : OpM := fun d as S => on1 (idxL S d) as
theorem m_index (hK : X.K = W.K) : MtR X "list.index" (rMt W opIndexL) := by
  intro pins s σ H x xs v us Q I rx rv h
  obtain ⟨m, S, d, as, rs, rd, ra, p⟩ := h
  obtain ⟨y, w, ex, ry, p1⟩ := on1_ok ra p
  clear p
  revert p1
  intro p
  have p : PostO W (RelD W) H m S.n (idxL S d y) Q := p
  unfold idxL at p
  cases q : rdL S d with
  | none => rw [q] at p; exact p.elim
  | some ds =>
    rw [q] at p
    obtain ⟨a, vs, ev, t, ru⟩ := rdL_ok rs q rd
    dsimp only at p
    cases q1 : flD y with
    | none => rw [q1] at p; exact p.elim
    | some u =>
      cases q2 : flDs ds with
      | none => rw [q1, q2] at p; exact p.elim
      | some ws =>
        rw [q1, q2] at p
        dsimp only at p
        cases q3 : idxV u ws with
        | none => rw [q3] at p; exact p.elim
        | some j =>
          rw [q3] at p
          obtain ⟨e1, f1⟩ := flD_ok q1 ry
          obtain ⟨e2, f2⟩ := flDs_ok q2 ru
          subst e1 e2
          obtain ⟨z, z1, z2, z3⟩ := idxV_ok q3
          exact mt_index pins s σ H x xs v us Q I rx rv ⟨a, _, w, j, z, ev, ex, by rw [hK]; exact t, f1, f2, z1, z2, z3, p.ret rs of_int⟩
/-- texts -/
def strsD : List D → Option (List Str)
  | [] => some []
  | .str x :: ds => match strsD ds with
    | some xs => some (x :: xs)
    | none => none
  | _ => none
theorem strsD_ok : ∀ {ds : List D} {vs : List V} {xs : List Str}, RelDs W H m n ds vs → strsD ds = some xs → vs = xs.map V.str
  | [], vs, xs, h, e => by
    unfold RelDs at h
    cases e
    exact h
  | d :: ds, vs, xs, h, e => by
    unfold RelDs at h
    obtain ⟨u, us, e1, r, rs⟩ := h
    cases d <;> try cases e
    rename_i b
    have e : (match strsD ds with
      | some bs => some (b :: bs)
      | none => none) = some xs := e
    cases q : strsD ds with
    | none => rw [q] at e; cases e
    | some cs =>
      rw [q] at e
      cases e
      rw [e1, relD_str r, strsD_ok rs q, List.map_cons]
def idxS (y : Str) : List Str → Option Nat
  | [] => none
  | z :: zs => if z = y then some 0 else match idxS y zs with
    | some j => some (j + 1)
    | none => none
theorem idxS_ok {y : Str} : ∀ {ys : List Str} {j : Nat}, idxS y ys = some j → ys[j]? = some y ∧ ∀ m, m < j → ys[m]? ≠ some y
  | [], j, h => by cases h
  | z :: ys, j, h => by
    unfold idxS at h
    by_cases he : z = y
    · rw [if_pos he] at h
      cases h
      exact ⟨by rw [he]; rfl, fun m hm => absurd hm (Nat.not_lt_zero _)⟩
    · rw [if_neg he] at h
      cases q : idxS y ys with
      | none => rw [q] at h; cases h
      | some i =>
        rw [q] at h
        cases h
        obtain ⟨h1, h3⟩ := idxS_ok q
        refine ⟨by rw [List.getElem?_cons_succ]; exact h1, fun m hm hz => ?_⟩
        cases m with
        | zero =>
          rw [List.getElem?_cons_zero] at hz
          exact he (Option.some.inj hz)
        | succ m => exact h3 m (Nat.lt_of_succ_lt_succ hm) (by rw [List.getElem?_cons_succ] at hz; exact hz)
def idxT (S : Sto) (d y : D) : Option (D × Sto) := match seqD d, y with
  | some ds, .str z => match strsD ds with
    | some xs => match idxS z xs with
      | some j => some (.int (j : Nat), S)
      | none => none
    | none => none
  | _, _ => none
def opIndexT : OpM := fun d as S => on1 (idxT S d) as
theorem m_indexT (hK : X.K = W.K) : MtR X "tuple.index" (rMt W opIndexT) := by
  intro pins s σ H x xs v us Q I rx rv h
  obtain ⟨m, S, d, as, rs, rd, ra, p⟩ := h
  obtain ⟨y, w, ex, ry, p1⟩ := on1_ok ra p
  clear p
  revert p1
  intro p
  have p : PostO W (RelD W) H m S.n (idxT S d y) Q := p
  unfold idxT at p
  split at p
  · rename_i ds z q _
    obtain ⟨a, vs, ev, t, ru⟩ := seqD_ok q rd
    cases q1 : strsD ds with
    | none => rw [q1] at p; exact p.elim
    | some zs =>
      rw [q1] at p
      dsimp only at p
      cases q2 : idxS z zs with
      | none => rw [q2] at p; exact p.elim
      | some j =>
        rw [q2] at p
        have e := strsD_ok ru q1
        cases relD_str ry
        subst e
        obtain ⟨z1, z2⟩ := idxS_ok q2
        exact mt_tup_index pins s σ H x xs v us Q I rx rv ⟨a, zs, z, j, ev, ex, by rw [hK]; exact t _ _ _ Ext.refl, z1, z2, p.ret rs of_int⟩
  · exact p.elim
def getD2 (S : Sto) (d y z : D) : Option (D × Sto) := match d with
  | .loc k => match dGet S k y with
    | some (some r) => some (r, S)
    | some none => some (z, S)
    | none => none
  | _ => none
def opGet : OpM := fun d as S => match as with
  | [y] => getD2 S d y .non
  | as => on2 (getD2 S d) as
theorem m_get (hu : X.A.units + 1 < cLine) : MtR X "dict.get" (rMt W opGet) := by
  intro pins s σ H x xs v us Q I rx rv h
  obtain ⟨m, S, d, as, rs, rd, ra, p⟩ := h
  have key : ∀ {y z : D} {vy vz : V}, RelD W H m S.n y vy → RelD W H m S.n z vz → PostO W (RelD W) H m S.n (getD2 S d y z) Q → ∃ a o, x = .ref a ∧ DGet H a vy o ∧ Q (o.getD vz) H := fun {y z vy vz} ry rz p => by
    cases d <;> try exact p.elim
    rename_i k
    obtain ⟨_, ea⟩ := relD_locE rd
    clear ‹PostO W (RelD W) H m S.n (opGet _ as S) Q›
    unfold getD2 at p
    dsimp only at p
    split at p
    · rename_i r q
      obtain ⟨u, g, ru⟩ := dGet_ok rs q ry
      exact ⟨_, some u, ea, g, p.ret rs ru⟩
    · rename_i q
      exact ⟨_, none, ea, dGet_ok rs q ry, p.ret rs rz⟩
    · exact p.elim
  have one : ∀ y, as = [y] → PostO W (RelD W) H m S.n (getD2 S d y .non) Q → wpAny (model X.prog X.w) X.A (call (.builtin "dict.get") (v :: us)) (EP X pins σ Q) X.xe s := fun y e p => by
    rw [e] at ra
    obtain ⟨vy, ex, ry⟩ := relDs_one ra
    obtain ⟨a, o, ea, g, q⟩ := key ry of_non p
    subst ea ex
    obtain ⟨u, rfl, ru⟩ := vals1 rv
    obtain rfl : v = Value.ref a := rx
    exact d_get1 hu I g ru fun w' s' I' r' => ⟨_, H, I', r', q⟩
  have two : PostO W (RelD W) H m S.n (on2 (getD2 S d) as) Q → wpAny (model X.prog X.w) X.A (call (.builtin "dict.get") (v :: us)) (EP X pins σ Q) X.xe s := fun p => by
    obtain ⟨y, z, vy, vz, ex, ry, rz, p⟩ := on2_ok ra p
    obtain ⟨a, o, ea, g, q⟩ := key ry rz p
    subst ea ex
    obtain ⟨u, u2, rfl, ru, ru2⟩ := vals2 rv
    obtain rfl : v = Value.ref a := rx
    exact d_get2 hu I g ru ru2 fun w' s' I' r' => ⟨_, H, I', r', q⟩
  cases as with
  | nil => exact two p
  | cons y as =>
    cases as with
    | nil => exact one y rfl p
    | cons z as => exact two p
def updD (S : Sto) (d y : D) : Option (D × Sto) := match d, y with
  | .loc k, .loc j => if k = j then none else match S.get k, S.get j with
    | some (.dk ps), some (.dk qs) => if ps.length + qs.length ≤ 1000000 then some (.non, S.set k (.dk (mergeD ps qs))) else none
    | _, _ => none
  | _, _ => none
def opUpdate : OpM := fun d as S => on1 (updD S d) as
theorem m_update : MtR X "dict.update" (rMt W opUpdate) := by
  intro pins s σ H x xs v us Q I rx rv h
  obtain ⟨m, S, d, as, rs, rd, ra, p⟩ := h
  obtain ⟨y, w, ex, ry, p1⟩ := on1_ok ra p
  clear p
  revert p1
  intro p
  cases d <;> cases y <;> try exact p.elim
  case loc.loc k j =>
    obtain ⟨hk, ea⟩ := relD_locE rd
    obtain ⟨hj, eb⟩ := relD_locE ry
    have p : PostO W (RelD W) H m S.n (if k = j then none else match S.get k, S.get j with
      | some (.dk ps), some (.dk qs) => if ps.length + qs.length ≤ 1000000 then some (.non, S.set k (.dk (mergeD ps qs))) else none
      | _, _ => none) Q := p
    by_cases hkj : k = j
    · rw [if_pos hkj] at p
      exact p.elim
    · rw [if_neg hkj] at p
      split at p
      · rename_i ps qs hg hg2
        obtain ⟨vs, hm, ru⟩ := dk_own rs hg
        obtain ⟨ws, hm2, ru2⟩ := dk_own rs hg2
        by_cases hl : ps.length + qs.length ≤ 1000000
        · rw [if_pos hl] at p
          have wr : Wr (.dK vs) := trivial
          subst ea eb ex
          obtain ⟨u, rfl, rfl⟩ := vals1 rv
          obtain rfl : v = Value.ref (m k) := rx
          obtain ⟨z1, lo1, kv1, rel1, dd1⟩ := dk_of I.hok hm
          obtain ⟨z2, lo2, kv2, rel2, dd2⟩ := dk_of I.hok hm2
          have l1 : kv1.length = vs.length := (Paired.length rel1).symm
          have l2 : kv2.length = ws.length := (Paired.length rel2).symm
          have hz : (mergeK vs ws).length ≤ sizeLine := by
            have a := length_mergeK ws vs
            have b := kvR_len ru
            have c := kvR_len ru2
            exact Nat.le_trans (by omega) line1000000
          refine call_meetsIn PySem.F.slot_dict_update dd1.typeIs PySem.F.entry_dict_update (PySem.F.args_dict_update_2 _ _) (meets_dict_update (mixKind X.prog X.w) (m k) (m j) (fun z => hkj (rs.inj k j hk hj z)) lo2) ⟨kv1, kv2, dd1, dd2, ?_, fun h' d1 d2 sb => ?_⟩
          · rw [l1, l2, kvR_len ru, kvR_len ru2]
            exact Nat.le_trans hl line1000000
          · have he : ∃ q, h'.get? (m k) = some q := let ⟨q, _, _, hq, _⟩ := d1; ⟨q, hq⟩
            exact ⟨.non, _, d_write I (by rw [hm]; exact True.intro) sb he (dk_new hz lo1 (KV.merge rel2 rel1) d1), rfl, p.set (b := .dk (mergeD ps qs)) rs hg hm wr ⟨_, rfl, kvR_merge ru2 ru⟩ of_non⟩
        · rw [if_neg hl] at p
          exact p.elim
      · exact p.elim
end
end Z
set_option Elab.async false
set_option linter.all false
set_option autoImplicit false
set_option maxRecDepth 100000
/-! Z20: sorted(set(..)), list(range(..)), isinstance. -/
namespace Z
open PySem PySem.Spec PyProof.Rows L2

/-! ### sorted(set(ints)) -/
def usL (ns : List Int) : List Int := ns.foldr (fun a l => insU a l) []
where
  insU (a : Int) : List Int → List Int
    | [] => [a]
    | b :: l => if a < b then a :: b :: l else if a = b then b :: l else b :: insU a l
theorem insU_mem {a x : Int} : ∀ {l : List Int}, x ∈ usL.insU a l ↔ x = a ∨ x ∈ l
  | [] => by simp [usL.insU]
  | b :: l => by
    unfold usL.insU
    split
    · simp
    · split
      · rename_i h
        subst h
        simp
      · rw [List.mem_cons, insU_mem, List.mem_cons]
        constructor
        · rintro (h | h | h)
          · exact .inr (.inl h)
          · exact .inl h
          · exact .inr (.inr h)
        · rintro (h | h | h)
          · exact .inr (.inl h)
          · exact .inl h
          · exact .inr (.inr h)
theorem insU_srt {a : Int} : ∀ {l : List Int}, l.Pairwise (· < ·) → (usL.insU a l).Pairwise (· < ·)
  | [], _ => by simp [usL.insU]
  | b :: l, h => by
    rw [List.pairwise_cons] at h
    unfold usL.insU
    split
    · rename_i hab
      rw [List.pairwise_cons]
      refine ⟨fun c hc => ?_, List.pairwise_cons.mpr h⟩
      rcases List.mem_cons.mp hc with e | hc
      · omega
      · have := h.1 c hc
        omega
    · split
      · exact List.pairwise_cons.mpr h
      · rename_i h1 h2
        rw [List.pairwise_cons]
        refine ⟨fun c hc => ?_, insU_srt h.2⟩
        rcases insU_mem.mp hc with e | hc
        · omega
        · exact h.1 c hc
theorem usL_ok : ∀ {ns : List Int}, (usL ns).Pairwise (· < ·) ∧ ∀ k, k ∈ usL ns ↔ k ∈ ns
  | [] => ⟨List.Pairwise.nil, fun k => Iff.rfl⟩
  | a :: ns => by
    obtain ⟨h1, h2⟩ := usL_ok (ns := ns)
    refine ⟨insU_srt h1, fun k => ?_⟩
    show k ∈ usL.insU a (usL ns) ↔ _
    rw [insU_mem, h2, List.mem_cons]
theorem strict_one : ∀ {l1 l2 : List Int}, l1.Pairwise (· < ·) → l2.Pairwise (· < ·) → (∀ k, k ∈ l1 ↔ k ∈ l2) → l1 = l2
  | [], [], _, _, _ => rfl
  | [], b :: l2, _, _, h => absurd ((h b).mpr (List.mem_cons_self ..)) (by simp)
  | a :: l1, [], _, _, h => absurd ((h a).mp (List.mem_cons_self ..)) (by simp)
  | a :: l1, b :: l2, h1, h2, h => by
    rw [List.pairwise_cons] at h1 h2
    have e : a = b := by
      rcases List.mem_cons.mp ((h a).mp (List.mem_cons_self ..)) with e | ha
      · exact e
      · rcases List.mem_cons.mp ((h b).mpr (List.mem_cons_self ..)) with e | hb
        · exact e.symm
        · have := h1.1 b hb
          have := h2.1 a ha
          omega
    subst e
    refine congrArg (a :: ·) (strict_one h1.2 h2.2 fun k => ⟨fun hk => ?_, fun hk => ?_⟩)
    · rcases List.mem_cons.mp ((h k).mp (List.mem_cons_of_mem _ hk)) with e | hk2
      · have := h1.1 k hk
        omega
      · exact hk2
    · rcases List.mem_cons.mp ((h k).mpr (List.mem_cons_of_mem _ hk)) with e | hk2
      · have := h2.1 k hk
        omega
      · exact hk2
def sset (S : Sto) (ds : List D) : Option (D × Sto) := match intsD ds with
  | some ns => if ns.length < 64 then some (.loc S.n, S.push (.lst ((usL ns).map D.int))) else none
  | none => none
def opSset : OpA := fun as S => on1 (onL (sset S) S) as
section
variable {X : Cx} {W : Wd} {H : Hp} {m : Nat → Addr} {n : Nat} {E : St → XK} {e : Expr} {pos : Pos}
theorem z_sset {p1 p2 q : Pos} {f : FE} (hK : X.K = W.K) (hc : X.calm = true) (hg : Gl X "sorted") (hm : X.mg "sorted" = none) (hg2 : Gl X "set") (hm2 : X.mg "set" = none) (ha : PE X e (tE W E f)) (hs : starEach [e] X.env = (false, eval e X.env) :: starEach [] X.env)
    (hs2 : starEach [.Call (.Name "set" p2) [e] [] q] X.env = (false, eval (.Call (.Name "set" p2) [e] [] q) X.env) :: starEach [] X.env) (hpl : (backTo q (starEach [] X.env)).any (·.1) = false) (hpl2 : (backTo pos (starEach [] X.env)).any (·.1) = false) :
    PE X (.Call (.Name "sorted" p1) [.Call (.Name "set" p2) [e] [] q] [] pos) (tE W E (fOpA opSset (fArgs [f]))) := by
  have h1 := pe_callTy (p := p2) (ZS.cr_setL hc) hg2 hm2 boot_set (pa_cons ha pa_nil hs) (by decide) (by decide) hs hpl
  refine pe_imp (pe_callB (cr_sortedSet hc) hg hm boot_sorted (pa_cons h1 pa_nil hs2) (by decide) (by decide) hs2 hpl2) fun σ H Q h => ?_
  have h : tE W E (fun env S => (f env S).bind fun d S1 => R.of (onL (sset S1) S1 d)) σ H Q := by
    obtain ⟨env, m, S, k1, k2, k3⟩ := h
    refine ⟨env, m, S, k1, k2, ?_⟩
    have e : fOpA opSset (fArgs [f]) env S = (f env S).bind fun d S1 => R.of (onL (sset S1) S1 d) := by
      show (((f env S).bind fun d S1 => (R.ok [] S1 : R (List D)).bind fun ds S2 => R.ok (d :: ds) S2).bind fun as S2 => R.of (on1 (onL (sset S2) S2) as)) = _
      rw [R.bind_bind]
      rfl
    show PostG W (RelD W) (E σ) H m S.n ((f env S).bind fun d S1 => R.of (onL (sset S1) S1 d)) Q
    rw [← e]
    exact k3
  refine (tG.seq (rl := RelD W) (g := fun env d S1 => R.of (onL (sset S1) S1 d)) h).mono fun x H1 q => ?_
  obtain ⟨env, m, S, d, k1, k2, k3, k4⟩ := q
  obtain ⟨a, vs, ds, ev, t, ru, p⟩ := onL_ok k2 k3 k4.of
  unfold sset at p
  cases q : intsD ds with
  | none => rw [q] at p; exact p.elim
  | some ns =>
    rw [q] at p
    dsimp only at p
    by_cases hl : ns.length < 64
    · rw [if_pos hl] at p
      have en := intsD_ok ru q
      subst ev en
      refine ⟨a, ns, rfl, by rw [hK]; exact t, by omega, fun c b hc1 hb => ⟨b, _, c, rfl, upd_same, by omega, fun ns' pp s1 s2 s3 hpp => ?_⟩⟩
      have e2 : ns' = usL ns := strict_one s1 usL_ok.1 fun k => by
        rw [s2 k, usL_ok.2 k]
        exact decide_eq_true_iff
      subst e2
      have e1 : Ext W H1 m S.n (upd H1 b (SetO X.w b (fun j => decide (j ∈ ns)) c)) m S.n := ext_upd hb
      have r1 : RelS W (upd H1 b (SetO X.w b (fun j => decide (j ∈ ns)) c)) m S := k2.upd hb
      have p2 := PostG.ext (E := fun _ _ _ => False) e1 (r := R.of (some (.loc S.n, S.push (.lst ((usL ns).map D.int))))) (rl := RelD W) (W := W) (Q := Q) p
      exact (PostG.of p2).newS (o := .lst ((usL ns).map V.int)) r1 hpp ⟨_, rfl, intsD_rel _⟩ relD_loc
    · rw [if_neg hl] at p
      exact p.elim

/-! ### list(range(..)) -/
def rgD (a b : Int) : List D := (List.range (b - a).toNat).map fun i => D.int (a + (i : Nat))
theorem rgD_rel (a b : Int) : RelDs W H m n (rgD a b) (rgV a b) := by
  unfold rgD rgV
  have e1 : ((List.range (b - a).toNat).map fun i => D.int (a + (i : Nat))) = ((List.range (b - a).toNat).map fun i => a + ((i : Nat) : Int)).map D.int := by rw [List.map_map] <;> rfl
  have e2 : ((List.range (b - a).toNat).map fun i => V.int (a + (i : Nat))) = ((List.range (b - a).toNat).map fun i => a + ((i : Nat) : Int)).map V.int := by rw [List.map_map] <;> rfl
  rw [e1, e2]
  exact intsD_rel _
def lrD (S : Sto) (a b : Int) : Option (D × Sto) := if okR a && (okR b && decide ((b - a).toNat ≤ 1000000)) then some (.loc S.n, S.push (.lst (rgD a b))) else none
def lr1 (S : Sto) : D → Option (D × Sto)
  | .int b => lrD S 0 b
  | _ => none
def lr2 (S : Sto) : D → D → Option (D × Sto)
  | .int a, .int b => lrD S a b
  | _, _ => none
def fLr1 (f : FE) : FE := fun env S => (f env S).bind fun d S1 => R.of (lr1 S1 d)
def fLr2 (f g : FE) : FE := fun env S => (f env S).bind fun a S1 => (g env S1).bind fun b S2 => R.of (lr2 S2 a b)
theorem lrD_ok {S : Sto} {a b : Int} {Q : VK} (rs : RelS W H m S) (p : PostO W (RelD W) H m S.n (lrD S a b) Q) : RgOk a b ∧ ∀ q, H q = none → Q (.ref q) (upd H q (.lst (rgV a b))) := by
  unfold lrD at p
  by_cases h : (okR a && (okR b && decide ((b - a).toNat ≤ 1000000))) = true
  · rw [if_pos h] at p
    simp only [Bool.and_eq_true, decide_eq_true_eq] at h
    obtain ⟨h1, h2, h3⟩ := h
    exact ⟨⟨(okR_ok h1).1, (okR_ok h1).2, (okR_ok h2).1, (okR_ok h2).2, by omega⟩, fun q hq => p.newS (o := .lst (rgV a b)) rs hq ⟨_, rfl, rgD_rel a b⟩ relD_loc⟩
  · rw [if_neg h] at p
    exact p.elim
theorem z_lr1 {p p2 pos2 : Pos} {a : Expr} {f : FE} (hc : X.calm = true) (hg : Gl X "list") (hm : X.mg "list" = none) (hg2 : Gl X "range") (hm2 : X.mg "range" = none) (ha : PE X a (tE W E f)) (h1 : starEach [a] X.env = (false, eval a X.env) :: starEach [] X.env)
    (h2 : starEach [.Call (.Name "range" p2) [a] [] pos2] X.env = (false, eval (.Call (.Name "range" p2) [a] [] pos2) X.env) :: starEach [] X.env) : PE X (.Call (.Name "list" p) [.Call (.Name "range" p2) [a] [] pos2] [] pos) (tE W E (fLr1 f)) := by
  refine pe_imp (pe_listRg hc hg hm (prg_1 hg2 hm2 ha h1) h2) fun σ H Q h => ?_
  refine (tG.seq (rl := RelD W) (g := fun env d S1 => R.of (lr1 S1 d)) h).mono fun x H1 q => ?_
  obtain ⟨env, m, S, d, k1, k2, k3, k4⟩ := q
  cases d <;> try exact k4.elim
  rename_i b
  exact ⟨b, relD_int k3, lrD_ok k2 k4.of⟩
theorem z_lr2 {p p2 pos2 : Pos} {a b : Expr} {f g : FE} (hc : X.calm = true) (hg : Gl X "list") (hm : X.mg "list" = none) (hg2 : Gl X "range") (hm2 : X.mg "range" = none) (ha : PE X a (tE W E f)) (hb : PE X b (tE W E g)) (h1 : starEach [a, b] X.env = (false, eval a X.env) :: starEach [b] X.env) (h0 : starEach [b] X.env = (false, eval b X.env) :: starEach [] X.env) (hp : (backTo pos2 (starEach [b] X.env)).any (·.1) = false)
    (h2 : starEach [.Call (.Name "range" p2) [a, b] [] pos2] X.env = (false, eval (.Call (.Name "range" p2) [a, b] [] pos2) X.env) :: starEach [] X.env) : PE X (.Call (.Name "list" p) [.Call (.Name "range" p2) [a, b] [] pos2] [] pos) (tE W E (fLr2 f g)) := by
  refine pe_imp (pe_listRg hc hg hm (prg_2 hg2 hm2 ha hb h1 h0 hp) h2) fun σ H Q h => ?_
  refine (tG.seq (rl := RelD W) (g := fun env a S1 => (g env S1).bind fun b S2 => R.of (lr2 S2 a b)) h).mono fun x H1 q => ?_
  obtain ⟨env, m, S, d, k1, k2, k3, k4⟩ := q
  refine (tG.seq2 (rl := RelD W) (rl0 := RelD W) (fun a v e r => RelD.ext e a v r) k1 k2 k3 k4).mono fun y H2 q => ?_
  obtain ⟨m2, S2, d2, _, g2, g3, g4, g5⟩ := q
  cases d <;> cases d2 <;> try exact g5.elim
  rename_i i j
  exact ⟨i, j, relD_int g3, relD_int g4, lrD_ok g2 g5.of⟩
end
end Z
set_option Elab.async false
set_option linter.all false
set_option autoImplicit false
set_option maxRecDepth 100000
/-! Z21: isinstance; an exception's value. -/
namespace Z
open PySem PySem.Spec PyProof.Rows L2

/-- what a class of exceptions says of its instances -/
structure XC (K : PySem.W.Frag) (C : Addr) : Prop where
  cl : (PySem.W.clsIn K C).isSome = true
  hg : PySem.W.findIn K (.ref C) "__getattribute__" = some (some (.builtin "BaseException.__getattribute__"))
  hk : PySem.W.findIn K (.ref C) "__getattr__" = some none
  hs : PySem.W.subIn K (.ref C) (.type "BaseException") = some true
  hd : PySem.W.hasDictIn K C = true
  ha : PySem.W.findIn K (.ref C) "__class__" = some (some (.builtin "object.__class__"))
  hn : PySem.W.specialIn K (.builtin "object.__class__") "__get__" = some (some (.builtin "getset_descriptor.__get__"))
  ht : PySem.W.takesIn K (.builtin "object.__class__") = some true
  hm : PySem.W.mroIn K C (.type "object") = some true
  hv : PySem.W.findIn K (.ref C) "value" = some none
def xcB (K : PySem.W.Frag) (C : Addr) : Bool := (PySem.W.clsIn K C).isSome && (decide (PySem.W.findIn K (.ref C) "__getattribute__" = some (some (.builtin "BaseException.__getattribute__"))) && (decide (PySem.W.findIn K (.ref C) "__getattr__" = some none) && (decide (PySem.W.subIn K (.ref C) (.type "BaseException") = some true) && (PySem.W.hasDictIn K C &&
  (decide (PySem.W.findIn K (.ref C) "__class__" = some (some (.builtin "object.__class__"))) && (decide (PySem.W.specialIn K (.builtin "object.__class__") "__get__" = some (some (.builtin "getset_descriptor.__get__"))) && (decide (PySem.W.takesIn K (.builtin "object.__class__") = some true) && (decide (PySem.W.mroIn K C (.type "object") = some true) && decide (PySem.W.findIn K (.ref C) "value" = some none)))))))))
theorem xcB_ok {K : PySem.W.Frag} {C : Addr} (h : xcB K C = true) : XC K C := by
  simp only [xcB, Bool.and_eq_true, decide_eq_true_eq] at h
  obtain ⟨h1, h2, h3, h4, h5, h6, h7, h8, h9, h10⟩ := h
  exact ⟨h1, h2, h3, h4, h5, h6, h7, h8, h9, h10⟩
/-- a class in isinstance's second place: what it says of built-in types, of exceptions -/
structure IsK (W : Wd) (c : V) (u : Value) (ans : String → Option Bool) (ansE : Nat → Option Bool) : Prop where
  cls : ClsV c u
  ty : ∀ T b, ans T = some b → PySem.W.kitOne W.K (.type T) u = some b
  ex : ∀ k b, ansE k = some b → PySem.W.kitOne W.K (.ref (W.ca k)) u = some b ∧ XC W.K (W.ca k)
def isD (ans : String → Option Bool) (ansE : Nat → Option Bool) (S : Sto) : D → Option Bool
  | .non => ans "NoneType"
  | .bl _ => ans "bool"
  | .int _ => ans "int"
  | .str _ => ans "str"
  | .tup _ => ans "tuple"
  | .ktp _ => ans "tuple"
  | .sq _ => ans "list"
  | .exc c _ => ansE c
  | .loc k => match S.get k with
    | some (.lst _) => ans "list"
    | some (.dk _) => ans "dict"
    | some (.dt _) => ans "dict"
    | _ => none
  | _ => none
def isR (ans : String → Option Bool) (ansE : Nat → Option Bool) (S : Sto) (d : D) : Option (D × Sto) := match isD ans ansE S d with
  | some b => some (.bl b, S)
  | none => none
def fIsi (ans : String → Option Bool) (ansE : Nat → Option Bool) (f : FE) : FE := fun env S => (f env S).bind fun d S1 => R.of (isR ans ansE S1 d)
/-- seven types -/
def tys : List String := ["NoneType", "bool", "int", "str", "tuple", "list", "dict"]
def tyAns (T : String) (A : String) : Option Bool := if A ∈ tys then some (A == T || (A == "bool" && T == "int")) else none
theorem isK_ty {W : Wd} (T : String) (h : (tys.all fun A => decide (kitB A T = tyAns T A)) = true) : IsK W (.ty T) (.type T) (tyAns T) (fun _ => none) where
  cls := .ty T
  ty := fun A b e => by
    by_cases hA : A ∈ tys
    · have z := List.all_eq_true.mp h A hA
      have z := of_decide_eq_true z
      rw [e] at z
      exact kit_ty z
    · unfold tyAns at e
      rw [if_neg hA] at e
      cases e
  ex := fun k b e => by cases e
/-- an own class of exceptions -/
theorem isK_own {W : Wd} {j : Nat} {sub : Nat → Option Bool} (h0 : PySem.W.kitOne W.K (.type "NoneType") (.ref (W.ca j)) = some false) (h : ∀ k b, sub k = some b → PySem.W.kitOne W.K (.ref (W.ca k)) (.ref (W.ca j)) = some b ∧ XC W.K (W.ca k)) :
    IsK W (.ref (W.ca j)) (.ref (W.ca j)) (fun A => if A = "NoneType" then some false else none) sub where
  cls := .own _
  ty := fun A b e => by
    by_cases hA : A = "NoneType"
    · rw [if_pos hA] at e
      cases e
      rw [hA]
      exact h0
    · rw [if_neg hA] at e
      cases e
  ex := h
section
variable {X : Cx} {W : Wd} {H : Hp} {m : Nat → Addr} {n : Nat} {E : St → XK} {e c : Expr} {pos : Pos}
theorem relD_excE {k : Nat} {x : D} {v : V} (h : RelD W H m n (.exc k x) v) : ∃ a d u, v = .ref a ∧ (H a = some (exO (W.ca k) a d) ∧ Off m n a) ∧ (H d = some (.xd [("value", u)]) ∧ Off m n d) ∧ RelD W H m n x u := by unfold RelD at h; exact h
/-- an exception's object, looked at -/
theorem exO_at {pins : List (Addr × Obj)} {σ : St} {s : Shared} {C a d : Addr} {u : V} (I : Inv X pins σ H s) (ha : H a = some (exO C a d)) (hd : H d = some (.xd [("value", u)])) :
    ∃ oe od w, PySem.W.InstAt s.heap a oe C (some od) ∧ PySem.W.lookIn "value" od = some (some w) ∧ L2.RelV u w := by
  have x : ObjOk X.prog X.w H s.heap a (.ext fun h => ∃ (oe : Obj) (ws : Array Value), h.get? a = some oe ∧ Zc (.ref C) (some d) oe ∧ oe.data = .fields ws) := I.hok a _ ha
  obtain ⟨⟨oe, ws, h1, hz, hw⟩, _⟩ := x
  have hx : ObjOk X.prog X.w H s.heap d (.xd [("value", u)]) := I.hok d _ hd
  obtain ⟨mA, hns, hr⟩ := hx
  obtain ⟨od, ho, hl⟩ := lookIn_ns hns
  obtain ⟨w, hu, ru⟩ := RelO.some_of (v := u) (o := mA "value") (hr "value")
  exact ⟨oe, od, w, ⟨h1, hz.1, by unfold PySem.W.notCls; rw [hw] <;> rfl, by rw [hz.2]; exact ho⟩, by rw [hl, hu], ru⟩
def rIsZ (W : Wd) (c : V) (ans : String → Option Bool) (ansE : Nat → Option Bool) : List V → Hp → VK → Prop := fun xs H Q => ∃ m S d x, xs = [x, c] ∧ RelS W H m S ∧ RelD W H m S.n d x ∧ PostO W (RelD W) H m S.n (isR ans ansE S d) Q
theorem c_isi {cv : V} {u : Value} {ans : String → Option Bool} {ansE : Nat → Option Bool} (hK : X.K = W.K) (k : IsK W cv u ans ansE) : CallR X (.builtin "isinstance") (rIsZ W cv ans ansE) := by
  intro pins s σ H xs us Q I r h
  obtain ⟨m, S, d, x, ex, rs, rd, p⟩ := h
  unfold isR at p
  cases q : isD ans ansE S d with
  | none => rw [q] at p; exact p.elim
  | some b =>
    rw [q] at p
    have fin : Q (.bl b) H := p.ret rs of_bl
    have base : ∀ T, ans T = some b → TyX X.K H x (.type T) → wpAny (model X.prog X.w) X.A (call (.builtin "isinstance") us) (EP X pins σ Q) X.xe s := fun T e ty =>
      call_isi pins s σ H xs us Q I r ⟨x, cv, .type T, u, b, ex, k.cls, ty, by rw [hK]; exact k.ty T b e, fin⟩
    cases d with
    | non => exact base _ q (.base (by rw [relD_non rd]; exact .non))
    | bl y => exact base _ q (.base (by rw [relD_bl rd]; exact .bl y))
    | int i => exact base _ q (.base (by rw [relD_int rd]; exact .int i))
    | str y => exact base _ q (.base (by rw [relD_str rd]; exact .str y))
    | tup ds =>
      obtain ⟨a, vs, ea, t, _⟩ := relD_tupE rd
      exact base _ q (.base (by rw [ea]; exact .tup t.1))
    | ktp ds =>
      obtain ⟨a, vs, ea, t, _⟩ := relD_ktpE rd
      obtain ⟨ob, its, kk, h1, h2, _⟩ := t
      exact base _ q (by rw [ea, hK]; exact .kTuple h1 h2)
    | sq ds =>
      obtain ⟨a, vs, ea, t, _⟩ := relD_sqE rd
      rcases t with ⟨t | ⟨o, t⟩, _⟩ | ⟨o, its, kk, h1, h2, _⟩
      · exact base _ q (.base (by rw [ea]; exact .lst t))
      · exact base _ q (.base (by rw [ea]; exact .frz t))
      · exact base _ q (by rw [ea, hK]; exact .kList h1 h2)
    | loc j =>
      obtain ⟨_, ea⟩ := relD_locE rd
      have q : (match S.get j with
        | some (.lst _) => ans "list"
        | some (.dk _) => ans "dict"
        | some (.dt _) => ans "dict"
        | _ => none) = some b := q
      split at q
      · rename_i ds hj
        obtain ⟨vs, hm, _⟩ := rs.lst hj
        exact base _ q (.base (by rw [ea]; exact .lst hm))
      · rename_i ds hj
        obtain ⟨vs, hm, _⟩ := dk_own rs hj
        exact base _ q (.base (by rw [ea]; exact .dK hm))
      · rename_i ds hj
        obtain ⟨vs, hm, _⟩ := dt_own rs hj
        exact base _ q (.base (by rw [ea]; exact .dT hm))
      · cases q
    | exc j y =>
      obtain ⟨a, dd, w, ea, ⟨h1, _⟩, ⟨h2, _⟩, _⟩ := relD_excE rd
      obtain ⟨e1, C⟩ := k.ex j b q
      rw [← hK] at e1 C
      obtain ⟨oe, od, _, J, _⟩ := exO_at I h1 h2
      subst ex ea
      obtain ⟨u1, u2, rfl, r1, r2⟩ := vals2 r
      obtain rfl : u1 = Value.ref a := r1
      have e2 := k.cls.eq r2
      subst e2
      exact PySem.W.kia_one (PySem.W.kitx_exc C.cl C.hg C.hk C.hs C.ha C.hn C.ht C.hm) I.kIn J e1 (fun z => nomatch z) fun tk => ⟨.bl b, H, I.tok tk, rfl, fin⟩
    | lam j => cases q
theorem z_isi {cv : V} {u : Value} {ans : String → Option Bool} {ansE : Nat → Option Bool} {p : Pos} {f : FE} (hK : X.K = W.K) (k : IsK W cv u ans ansE) (hg : Gl X "isinstance") (hm : X.mg "isinstance" = none) (he : PE X e (tE W E f)) (hc : PE X c (tC cv))
    (hs : starEach [e, c] X.env = (false, eval e X.env) :: starEach [c] X.env) (hs2 : starEach [c] X.env = (false, eval c X.env) :: starEach [] X.env) (hpl : (backTo pos (starEach [c] X.env)).any (·.1) = false) :
    PE X (.Call (.Name "isinstance" p) [e, c] [] pos) (tE W E (fIsi ans ansE f)) := by
  refine pe_imp (pe_callB (c_isi hK k) hg hm boot_isinstance (pa_cons he (pa_cons hc pa_nil hs2) hs) (by decide) (by decide) hs hpl) fun σ H Q h => ?_
  refine (tG.seq (rl := RelD W) (g := fun env d S1 => R.of (isR ans ansE S1 d)) h).mono fun x H1 q => ?_
  obtain ⟨env, m, S, d, k1, k2, k3, k4⟩ := q
  exact ⟨m, S, d, x, rfl, k2, k3, k4.of⟩

/-! ### e.value -/
def valX : D → Option D
  | .exc _ x => some x
  | _ => none
def fVal (f : FE) : FE := fun env S => (f env S).bind fun d S1 => match valX d with
  | some x => .ok x S1
  | none => .no
theorem z_value {f : FE} (hK : X.K = W.K) (hC : ∀ k, XC W.K (W.ca k)) (he : PE X e (tE W E f)) (hb : attributeBase e "value" X.env (eval e X.env) = eval e X.env) : PE X (.Attribute e "value" pos) (tE W E (fVal f)) := by
  refine ⟨fun pins s σ H Q I h => ?_⟩
  have h2 := (tG.seq (rl := RelD W) (g := fun env d S1 => match valX d with | some x => .ok x S1 | none => .no) h)
  refine attr_of hb (thn (he.run pins s σ H _ I h2) fun u s1 ⟨x, H1, I1, rx, env, m, S, d, k1, k2, k3, k4⟩ => ?_)
  cases d <;> try exact k4.elim
  rename_i k y
  obtain ⟨a, dd, w, ea, ⟨h1, _⟩, ⟨h2, _⟩, rw'⟩ := relD_excE k3
  subst ea
  obtain rfl : u = Value.ref a := rx
  have C := hC k
  rw [← hK] at C
  obtain ⟨oe, od, ww, J, hl, ru⟩ := exO_at I1 h1 h2
  exact HandSPX.exc_get I1.kIn J C.hg C.hk C.hs (PySem.W.findObj_own C.hd C.hv rfl (by rw [hl])) (handed_of ru) ⟨w, H1, I1.tok _, ru, k4 H1 m _ Ext.refl k2 rw'⟩
end
end Z
set_option Elab.async false
set_option linter.all false
set_option autoImplicit false
set_option maxRecDepth 100000
/-! Z22: the rules with their side conditions closed by themselves. -/
namespace Z
open PySem PySem.Spec PyProof.Rows L2

/-- built-in names that are not bound at the top -/
def bNs : List Str := ["len", "all", "any", "sum", "max", "min", "abs", "int", "tuple", "list", "sorted", "set", "repr", "isinstance", "range", "enumerate", "zip", "bool", "str", "dict"]
/-- what holds in each context -/
class Ctx (W : outParam Wd) (X : Cx) (j : outParam Nat) : Prop where
  hK : X.K = W.K
  hc : X.calm = true
  hr : RoomG j X.A
  fr : ∀ x ∈ bNs, X.mg x = none
theorem Ctx.hu {W : Wd} {X : Cx} {j : Nat} (C : Ctx W X j) : X.A.units + 65 < cLine := by
  have := C.hr.un
  omega
instance {W : Wd} {X : Cx} {j : Nat} [C : Ctx W X j] {s : Shared} {H : Hp} {scope : Scope} {env : Env} {fp : List Addr} : Ctx W (X.blk s H scope env fp) j := ⟨C.hK, C.hc, C.hr, C.fr⟩
instance {W : Wd} {X : Cx} {j : Nat} [C : Ctx W X j] {pn : List (Addr × Obj)} {xe : Value → Shared → Prop} : Ctx W (X.tr pn xe) j := ⟨C.hK, C.hc, C.hr, C.fr⟩
class Pas (X : Cx) (E : outParam (St → XK)) : Prop where
  p : ∀ σ, PassesAt (L2.CX X.prog X.w) X σ (E σ)
theorem pas_noE {X : Cx} (σ : St) : PassesAt (L2.CX X.prog X.w) X σ (noE σ) := fun _ _ _ e s' _ c => by
  obtain ⟨_, _, _, _, _, _, _, _, _, _, _, _, z⟩ := c
  exact z.elim
instance {X : Cx} {s : Shared} {H : Hp} {scope : Scope} {env : Env} {fp : List Addr} : Pas (X.blk s H scope env fp) noE := ⟨pas_noE⟩
/-- a name of the top that is data -/
def GlC (W : Wd) (mg : Str → Option Value) (x : Str) (d : D) : Prop := ∃ v, (∃ u, mg x = some u ∧ L2.RelV v u) ∧ ∀ H m n, RelD W H m n d v
def negD (d : D) (S1 : Sto) : R D := match d with
  | .int i => .ok (.int (-i)) S1
  | _ => .no
def fNeg (f : FE) : FE := fun env S => (f env S).bind negD
section
variable {W : Wd} {X : Cx} {j : Nat} [C : Ctx W X j] {E : St → XK} {pos p p1 p2 p3 : Pos} {a b c e : Expr} {es rest : List Expr} {fa fb fc : FE} {fs : List FE} {ta tb : En → Sto → R Bool} {kk : Nat}
include C
theorem w_var (i : Nat) {x : Str} (hN : X.N[i]? = some x := by rfl) (hv : Vis X.env.scope x := by first | exact Or.inl rfl | exact Or.inr (Or.inl rfl) | exact Or.inr (Or.inr rfl)) (hd : (x == ("__debug__" : Str)) = false := by decide) (hcd : (x == ("__classdict__" : Str)) = false := by decide) :
    PE X (.Name x pos) (tE W E (fVar i)) := z_var hN hv hd hcd
theorem w_int {i : Int} : PE X (.Constant (.int i) kk pos) (tE W E (fCst (.int i))) := z_cst pe_int fun _ _ _ => of_int
theorem w_str {x : Str} : PE X (.Constant (.str x) kk pos) (tE W E (fCst (.str x))) := z_cst pe_str fun _ _ _ => of_str
theorem w_bl {x : Bool} : PE X (.Constant (.bool x) kk pos) (tE W E (fCst (.bl x))) := z_cst pe_bl fun _ _ _ => of_bl
theorem w_non : PE X (.Constant .none kk pos) (tE W E (fCst .non)) := z_cst pe_non fun _ _ _ => of_non
theorem w_gl {x : Str} {d : D} (g : GlC W X.mg x d) (hg : Gl X x := by rfl) (hd : (x == ("__debug__" : Str)) = false := by decide) : PE X (.Name x pos) (tE W E (fCst d)) := by
  obtain ⟨v, ⟨u, h, rv⟩, r⟩ := g
  exact z_cst (pe_glob hg h rv hd) r
theorem w_neg (ha : PE X a (tE W E fa)) : PE X (.UnaryOp .USub a pos) (tE W E (fNeg fa)) := by
  refine pe_imp (pe_un un_neg ha) fun σ H Q h => ?_
  refine (tG.seq (rl := RelD W) (g := fun env => negD) h).mono fun x H1 q => ?_
  obtain ⟨env, m, S, d, k1, k2, k3, k4⟩ := q
  cases d <;> try exact k4.elim
  rename_i i
  exact ⟨i, relD_int k3, k4 H1 m _ Ext.refl k2 of_int⟩
theorem w_add (ha : PE X a (tE W E fa)) (hb : PE X b (tE W E fb)) : PE X (.BinOp a .Add b pos) (tE W E (fBin opAdd fa fb)) := z_bin (op_z_add C.hK) ha hb
theorem w_sub (ha : PE X a (tE W E fa)) (hb : PE X b (tE W E fb)) : PE X (.BinOp a .Sub b pos) (tE W E (fBin opSub fa fb)) := z_bin op_z_sub ha hb
theorem w_mul (ha : PE X a (tE W E fa)) (hb : PE X b (tE W E fb)) : PE X (.BinOp a .Mult b pos) (tE W E (fBin opMul fa fb)) := z_bin (op_z_mul C.hK) ha hb
theorem w_mod (ha : PE X a (tE W E fa)) (hb : PE X b (tE W E fb)) : PE X (.BinOp a .Mod b pos) (tE W E (fBin opMod fa fb)) := z_bin op_z_mod ha hb
theorem w_fdiv (ha : PE X a (tE W E fa)) (hb : PE X b (tE W E fb)) : PE X (.BinOp a .FloorDiv b pos) (tE W E (fBin opFdiv fa fb)) := z_bin op_z_fdiv ha hb
theorem w_pow (ha : PE X a (tE W E fa)) (hb : PE X b (tE W E fb)) : PE X (.BinOp a .Pow b pos) (tE W E (fBin opPow fa fb)) := z_bin op_z_pow ha hb
/-- a comparison's rule -/
class Cmp (W : outParam Wd) (X : Cx) (op : CmpOp) (f : outParam Op2) : Prop where
  r : OpR X (compareOp op) (rOp W f)
instance : Cmp W X .Eq opEq := ⟨op_z_eq C.hK (by have := C.hu; omega)⟩
instance : Cmp W X .NotEq opNe := ⟨op_z_ne C.hK (by have := C.hu; omega)⟩
instance : Cmp W X .Lt opLt := ⟨op_z_lt C.hK (by have := C.hu; omega)⟩
instance {W : Wd} {X : Cx} {j : Nat} [C : Ctx W X j] : Cmp W X .LtE opLe := ⟨op_z_le⟩
instance {W : Wd} {X : Cx} {j : Nat} [C : Ctx W X j] : Cmp W X .Gt opGt := ⟨op_z_gt⟩
instance {W : Wd} {X : Cx} {j : Nat} [C : Ctx W X j] : Cmp W X .GtE opGe := ⟨op_z_ge⟩
instance {W : Wd} {X : Cx} {j : Nat} [C : Ctx W X j] : Cmp W X .Is opIs := ⟨op_z_is⟩
instance {W : Wd} {X : Cx} {j : Nat} [C : Ctx W X j] : Cmp W X .IsNot opIsNot := ⟨op_z_isnot⟩
instance : Cmp W X .In opIn := ⟨op_z_in C.hK C.hu⟩
instance : Cmp W X .NotIn opNotIn := ⟨op_z_notin C.hK C.hu⟩
theorem w_cmp {op : CmpOp} {f : Op2} [K : Cmp W X op f] (ha : PE X a (tE W E fa)) (hb : PE X b (tE W E fb)) (hm : behindInMarks op b = false := by rfl) : PE X (.Compare a [op] [b] pos) (tE W E (fBin f fa fb)) := z_cmp K.r ha hb hm
theorem w_tcmp {op : CmpOp} {f : Op2} [K : Cmp W X op f] (ha : PE X a (tE W E fa)) (hb : PE X b (tE W E fb)) (hm : behindInMarks op b = false := by rfl) : PT X (.Compare a [op] [b] pos) (tT W E (fBl (fBin f fa fb))) := z_tcmp K.r ha hb hm
theorem w_chain {op op' : CmpOp} {f f' : Op2} [K : Cmp W X op f] [K' : Cmp W X op' f'] (ha : PE X a (tE W E fa)) (hb : PE X b (tE W E fb)) (hc : PE X c (tE W E fc)) (hm : lastMarks [op, op'] [b, c] = false := by rfl) :
    PE X (.Compare a [op, op'] [b, c] pos) (tE W E (fChain f f' fa fb fc)) := z_chain K.r K'.r ha hb hc hm
theorem w_tchain {op op' : CmpOp} {f f' : Op2} [K : Cmp W X op f] [K' : Cmp W X op' f'] (ha : PE X a (tE W E fa)) (hb : PE X b (tE W E fb)) (hc : PE X c (tE W E fc)) (hm : lastMarks [op, op'] [b, c] = false := by rfl) :
    PT X (.Compare a [op, op'] [b, c] pos) (tT W E (fBl (fChain f f' fa fb fc))) := z_tchain K.r K'.r ha hb hc hm
theorem w_test (ha : PE X a (tE W E fa)) (he : ∀ whole, isTrue a X.env whole = (do let v ← whole; standAt a.pos; holding [v] (truthy v)) := by (intro _; rfl)) : PT X a (tT W E (fTru fa)) := z_test C.hK ha he
theorem w_and1 {op : BoolOp} (ha : PE X a (tE W E fa)) : PE X (.BoolOp op [a] pos) (tE W E fa) := z_one ha
theorem w_andV (ha : PE X a (tE W E fa)) (hb : PE X (.BoolOp .And (b :: rest) pos) (tE W E fb)) : PE X (.BoolOp .And (a :: b :: rest) pos) (tE W E (fAndV fa fb)) := z_andV C.hK ha hb
theorem w_orV (ha : PE X a (tE W E fa)) (hb : PE X (.BoolOp .Or (b :: rest) pos) (tE W E fb)) : PE X (.BoolOp .Or (a :: b :: rest) pos) (tE W E (fOrV fa fb)) := z_orV C.hK ha hb
theorem w_notV (ha : PE X a (tE W E fa)) : PE X (.UnaryOp .Not a pos) (tE W E (fNotV fa)) := z_notV C.hK ha
theorem w_wand1 (ha : PT X a (tT W E ta)) : PW X (.BoolOp .And [a] pos) (tT W E ta) := z_and1 ha
theorem w_wor1 (ha : PT X a (tT W E ta)) : PW X (.BoolOp .Or [a] pos) (tT W E ta) := z_or1 ha
theorem w_wand (ha : PT X a (tT W E ta)) (hb : PW X (.BoolOp .And (b :: rest) pos) (tT W E tb)) : PW X (.BoolOp .And (a :: b :: rest) pos) (tT W E (fAndT ta tb)) := z_andT ha hb
theorem w_wor (ha : PT X a (tT W E ta)) (hb : PW X (.BoolOp .Or (b :: rest) pos) (tT W E tb)) : PW X (.BoolOp .Or (a :: b :: rest) pos) (tT W E (fOrT ta tb)) := z_orT ha hb
theorem w_tnot (ha : PT X a (tT W E ta)) : PT X (.UnaryOp .Not a pos) (tT W E (fNotT ta)) := z_notT ha
theorem w_if {t : Expr} {ft : En → Sto → R Bool} (ht : PT X t (tT W E ft)) (ha : PE X a (tE W E fa)) (hb : PE X b (tE W E fb)) : PE X (.IfExp t a b pos) (tE W E (fIf ft fa fb)) := z_if ht ha hb
theorem w_nil : PA X [] (tA W E (fArgs [])) := z_nil
theorem w_cons (ha : PE X e (tE W E fa)) (hr : PA X es (tA W E (fArgs fs))) (hs : starEach (e :: es) X.env = (false, eval e X.env) :: starEach es X.env := by rfl) : PA X (e :: es) (tA W E (fArgs (fa :: fs))) := z_cons ha hr hs
theorem w_tup {k : Nat} (h : PA X es (tA W E (fArgs fs))) : PE X (.Tuple es k pos) (tE W E (fOpA opTup (fArgs fs))) := z_tup h
theorem w_lst (h : PA X es (tA W E (fArgs fs))) : PE X (.List es pos) (tE W E (fOpA opLst (fArgs fs))) := z_lst h
theorem w_ix (ha : PE X a (tE W E fa)) (hb : PE X b (tE W E fb)) (hs : PlainIx b := by (intro _ _; rfl)) : PE X (.Subscript a b pos) (tE W E (fBin opIx fa fb)) := z_ix (ix_z C.hK (by have := C.hu; omega)) ha hb hs
theorem w_sl {lo hi : Option Expr} {fl fh : En → Sto → R (Option Int)} (ha : PE X a (tE W E fa)) (hl : PO X lo (tP W E fl)) (hh : PO X hi (tP W E fh)) : PE X (.Subscript a (.Slice lo hi none p2) pos) (tE W E (fSl fa fl fh)) := z_slice C.hK ha hl hh
/-- a built-in function by values -/
class Blt (W : outParam Wd) (X : Cx) (x : Str) (f : outParam OpA) : Prop where
  r : ∃ id : String, CallR X (.builtin id) (rOpA W f) ∧ bootBuiltins x = some (.builtin id)
class BltT (W : outParam Wd) (X : Cx) (x : Str) (f : outParam OpA) : Prop where
  r : ∃ id : String, CallR X (.type id) (rOpA W f) ∧ bootBuiltins x = some (.type id)
instance : Blt W X "len" opLen := ⟨"len", c_len C.hK, by decide +kernel⟩
instance : Blt W X "all" (opAll fun bs => bs.all id) := ⟨"all", c_all C.hK C.hc, by decide +kernel⟩
instance : Blt W X "any" (opAll fun bs => bs.any id) := ⟨"any", c_any C.hK C.hc, by decide +kernel⟩
instance : Blt W X "sum" opSum := ⟨"sum", c_sum C.hK C.hc, by decide +kernel⟩
instance : Blt W X "sorted" opSorted := ⟨"sorted", c_sorted C.hK (by have := C.hu; omega), by decide +kernel⟩
instance : Blt W X "max" opMax2 := ⟨"max", c_max2 C.hc, by decide +kernel⟩
instance : Blt W X "min" opMin2 := ⟨"min", c_min2 C.hc, by decide +kernel⟩
instance {W : Wd} {X : Cx} {j : Nat} [C : Ctx W X j] : Blt W X "abs" opAbs := ⟨"abs", c_abs, by decide +kernel⟩
instance : Blt W X "repr" opRepr := ⟨"repr", c_repr C.hK C.hr.gs (by have := C.hu; omega), by decide +kernel⟩
instance {W : Wd} {X : Cx} {j : Nat} [C : Ctx W X j] : BltT W X "int" opInt := ⟨"int", c_int, by decide +kernel⟩
instance : BltT W X "tuple" opTuple := ⟨"tuple", c_tuple C.hK, by decide +kernel⟩
instance : BltT W X "list" opList := ⟨"list", c_list C.hK, by decide +kernel⟩
theorem w_blt {x : Str} {f : OpA} [B : Blt W X x f] (ha : PA X (e :: es) (tA W E (fArgs fs))) (hg : Gl X x := by rfl) (hm : x ∈ bNs := by decide) (hn : x ≠ "__name__" := by decide) (hdb : (x == ("__debug__" : Str)) = false := by decide)
    (he : starEach (e :: es) X.env = (false, eval e X.env) :: starEach es X.env := by rfl) (hpl : (backTo pos (starEach es X.env)).any (·.1) = false := by rfl) : PE X (.Call (.Name x p) (e :: es) [] pos) (tE W E (fOpA f (fArgs fs))) := by
  obtain ⟨id, r, hb⟩ := B.r
  exact z_callB r hg (C.fr x hm) hb ha hn hdb he hpl
theorem w_bltT {x : Str} {f : OpA} [B : BltT W X x f] (ha : PA X (e :: es) (tA W E (fArgs fs))) (hg : Gl X x := by rfl) (hm : x ∈ bNs := by decide) (hn : x ≠ "__name__" := by decide) (hdb : (x == ("__debug__" : Str)) = false := by decide)
    (he : starEach (e :: es) X.env = (false, eval e X.env) :: starEach es X.env := by rfl) (hpl : (backTo pos (starEach es X.env)).any (·.1) = false := by rfl) : PE X (.Call (.Name x p) (e :: es) [] pos) (tE W E (fOpA f (fArgs fs))) := by
  obtain ⟨id, r, hb⟩ := B.r
  exact z_callTy r hg (C.fr x hm) hb ha hn hdb he hpl
theorem w_sset {q : Pos} (ha : PE X e (tE W E fa)) (hg : Gl X "sorted" := by rfl) (hg2 : Gl X "set" := by rfl) (hs : starEach [e] X.env = (false, eval e X.env) :: starEach [] X.env := by rfl) (hs2 : starEach [.Call (.Name "set" p2) [e] [] q] X.env = (false, eval (.Call (.Name "set" p2) [e] [] q) X.env) :: starEach [] X.env := by rfl)
    (hpl : (backTo q (starEach [] X.env)).any (·.1) = false := by rfl) (hpl2 : (backTo pos (starEach [] X.env)).any (·.1) = false := by rfl) : PE X (.Call (.Name "sorted" p1) [.Call (.Name "set" p2) [e] [] q] [] pos) (tE W E (fOpA opSset (fArgs [fa]))) :=
  z_sset C.hK C.hc hg (C.fr _ (by decide)) hg2 (C.fr _ (by decide)) ha hs hs2 hpl hpl2
theorem w_lr1 (ha : PE X a (tE W E fa)) (hg : Gl X "list" := by rfl) (hg2 : Gl X "range" := by rfl) (h1 : starEach [a] X.env = (false, eval a X.env) :: starEach [] X.env := by rfl) (h2 : starEach [.Call (.Name "range" p2) [a] [] p3] X.env = (false, eval (.Call (.Name "range" p2) [a] [] p3) X.env) :: starEach [] X.env := by rfl) :
    PE X (.Call (.Name "list" p) [.Call (.Name "range" p2) [a] [] p3] [] pos) (tE W E (fLr1 fa)) := z_lr1 C.hc hg (C.fr _ (by decide)) hg2 (C.fr _ (by decide)) ha h1 h2
theorem w_ty {W : Wd} (T : String) (h : (tys.all fun A => decide (kitB A T = tyAns T A)) = true := by decide +kernel) : IsK W (.ty T) (.type T) (tyAns T) (fun _ => none) := isK_ty T h
theorem w_isT {x : Str} (T : String) (ha : PE X e (tE W E fa)) (hb : bootBuiltins x = some (.type T) := by decide +kernel) (h : (tys.all fun A => decide (kitB A T = tyAns T A)) = true := by decide +kernel) (hg : Gl X "isinstance" := by rfl) (hg2 : Gl X x := by rfl) (hm : x ∈ bNs := by decide)
    (hs : starEach [e, .Name x p2] X.env = (false, eval e X.env) :: starEach [.Name x p2] X.env := by rfl) (hs2 : starEach [.Name x p2] X.env = (false, eval (.Name x p2) X.env) :: starEach [] X.env := by rfl) (hpl : (backTo pos (starEach [.Name x p2] X.env)).any (·.1) = false := by rfl) (hn : x ≠ "__name__" := by decide) (hd : (x == ("__debug__" : Str)) = false := by decide) :
    PE X (.Call (.Name "isinstance" p) [e, .Name x p2] [] pos) (tE W E (fIsi (tyAns T) (fun _ => none) fa)) :=
  z_isi C.hK (isK_ty T h) hg (C.fr _ (by decide)) ha (pe_bltn hg2 (C.fr x hm) hb rfl hn hd) hs hs2 hpl
/-- a def called -/
theorem w_call {x : Str} {i k : Nat} {F : Fn} [Q : Pas X E] (D : Def W X.prog X.w X.mg X.base i x k F) (hi : i ≤ j) (ha : PA X (e :: es) (tA W E (fArgs fs))) (hk : fs.length = k := by rfl) (hg : Gl X x := by rfl) (hdb : (x == ("__debug__" : Str)) = false := by decide)
    (he : starEach (e :: es) X.env = (false, eval e X.env) :: starEach es X.env := by rfl) (hpl : (backTo pos (starEach es X.env)).any (·.1) = false := by rfl) : PE X (.Call (.Name x p) (e :: es) [] pos) (tE W E (fCall F (fArgs fs))) :=
  z_call ((D.mono hi).cal C.hK C.hr) hk hg Q.p ha hdb he hpl
theorem w_call0 {x : Str} {i : Nat} {F : Fn} [Q : Pas X E] (D : Def W X.prog X.w X.mg X.base i x 0 F) (hi : i ≤ j) (hg : Gl X x := by rfl) (hdb : (x == ("__debug__" : Str)) = false := by decide) : PE X (.Call (.Name x p) [] [] pos) (tE W E (fCall F (fArgs []))) :=
  z_call0 ((D.mono hi).cal C.hK C.hr) hg Q.p hdb
/-- methods -/
class Mth (W : outParam Wd) (X : Cx) (T : outParam String) (name : Str) (f : outParam OpM) : Prop where
  r : ∃ id : String, PlainAttrs T ∧ Slot T name id ∧ typeOf (.builtin id) = pure (.type "method_descriptor") ∧ MtR X id (rMt W f)
theorem mt_appendC : Mth W X "list" "append" opAppend := ⟨_, PySem.F.plainAttrs_list, PySem.F.slot_list_append, PySem.F.type_list_append, m_append⟩
theorem mt_extendC : Mth W X "list" "extend" opExtend := ⟨_, PySem.F.plainAttrs_list, PySem.F.slot_list_extend, PySem.F.type_list_extend, m_extend⟩
theorem mt_indexC : Mth W X "list" "index" opIndexL := ⟨_, PySem.F.plainAttrs_list, PySem.F.slot_list_index, PySem.F.type_list_index, m_index C.hK⟩
theorem mt_indexTC : Mth W X "tuple" "index" opIndexT := ⟨_, PySem.F.plainAttrs_tuple, PySem.F.slot_tuple_index, PySem.F.type_tuple_index, m_indexT C.hK⟩
theorem mt_getC : Mth W X "dict" "get" opGet := ⟨_, PySem.F.plainAttrs_dict, PySem.F.slot_dict_get, PySem.F.type_dict_get, m_get (by have := C.hu; omega)⟩
theorem mt_updateC : Mth W X "dict" "update" opUpdate := ⟨_, PySem.F.plainAttrs_dict, PySem.F.slot_dict_update, PySem.F.type_dict_update, m_update⟩
theorem w_meth {T : String} {name : Str} {f : OpM} {o : Expr} {fo : FE} {apos : Pos} (M : Mth W X T name f) (ho : PE X o (tE W E fo)) (ha : PA X (e :: es) (tA W E (fArgs fs))) (hbase : attributeBase o name X.env (eval o X.env) = eval o X.env := by rfl)
    (hfew : ((backTo pos (starEach (e :: es) X.env)).all (fun x => !x.1) && (backToKw pos (keywordEach [] X.env)).all (fun x => x.1.isSome)
      && decide ((e :: es).length + ([] : List Keyword).length + (if ([] : List Keyword).isEmpty then 0 else 1) < 30)) = true := by rfl)
    (hline : (apos.endLine == pos.line) = true := by rfl) (hs : starEach (e :: es) X.env = (false, eval e X.env) :: starEach es X.env := by rfl) (hplain : (backTo pos (starEach es X.env)).any (·.1) = false := by rfl) :
    PE X (.Call (.Attribute o name apos) (e :: es) [] pos) (tE W E (fMeth T f fo (fArgs fs))) := by
  obtain ⟨id, h1, h2, h3, h4⟩ := M.r
  exact z_meth C.hK h1 h2 h3 h4 ho ha hbase hfew hline hs hplain
end
end Z
set_option Elab.async false
set_option linter.all false
set_option autoImplicit false
set_option maxRecDepth 100000
/-! Z23: statements, comprehensions, defs, with their side conditions closed. -/
namespace Z
open PySem PySem.Spec PyProof.Rows L2

/-! ### a def -/
def startE (n : Nat) (ds : List D) : En := ds.map some ++ List.replicate (n - ds.length) none
def RS.fin : RS → R D
  | .ok (.nx _) S => .ok .non S
  | .ok (.rt d) S => .ok d S
  | .exc c v _ S => .exc c v S
  | _ => .no
def runF (n : Nat) (g : En → Sto → RS) : Fn := fun ds S => (g (startE n ds) S).fin
theorem relDs_map {W : Wd} {H : Hp} {m : Nat → Addr} {n : Nat} {ds : List D} {vs : List V} (r : RelDs W H m n ds vs) (N : List Str) : RelEn W H m n (startE N.length ds) (L2.start N vs) where
  len := by
    unfold startE L2.start
    rw [List.length_append, List.length_append, List.length_map, List.length_map, r.len, List.length_replicate, List.length_replicate]
  at_ := fun i d q => by
    unfold startE at q
    unfold L2.start
    by_cases hi : i < ds.length
    · rw [List.getElem?_append_left (by rw [List.length_map]; exact hi), List.getElem?_map] at q
      rw [List.getElem?_append_left (by rw [List.length_map, r.len]; exact hi), List.getElem?_map]
      cases q2 : ds[i]? with
      | none => rw [q2] at q; cases q
      | some e =>
        rw [q2] at q
        cases q
        obtain ⟨v, h1, h2⟩ := r.get q2
        exact ⟨v, by rw [h1]; rfl, h2⟩
    · rw [List.getElem?_append_right (by rw [List.length_map]; omega)] at q
      have z := List.mem_of_getElem? q
      have z := (List.mem_replicate.mp z).2
      cases z
theorem fin_post {W : Wd} {H : Hp} {m : Nat → Addr} {n : Nat} {E0 : XK} {Q : VK} {r : RS} (h : PostG W (RelD W) E0 H m n r.fin Q) : PostS W (fun _ => E0) { nx := fun _ H' => Q .non H', rt := Q } H m n r := by
  cases r with
  | no => exact h
  | exc c v env S => exact fun H' m' σ' d u e rs _ a b c => h H' m' d u e rs a b c
  | ok f S =>
    cases f with
    | nx env => exact fun H' m' σ' e rs _ => h H' m' .non e rs of_non
    | rt d => exact fun H' m' v e rs r => h H' m' v e rs r
    | bk env => exact h.elim
    | ct env => exact h.elim
def fNo : FE := fun _ _ => .no
def fNoT : En → Sto → R Bool := fun _ _ => .no
def gNo : En → Sto → RS := fun _ _ => .no
theorem w_no {W : Wd} {X : Cx} {E : St → XK} {e : Expr} : PE X e (tE W E fNo) := ⟨fun _ _ _ _ _ _ h => by
  obtain ⟨env, m, S, h1, h2, h3⟩ := h
  exact h3.elim⟩
theorem w_noT {W : Wd} {X : Cx} {E : St → XK} {e : Expr} : PT X e (tT W E fNoT) := ⟨fun _ _ _ _ _ _ h => by
  obtain ⟨env, m, S, h1, h2, h3⟩ := h
  exact h3.elim⟩
theorem w_noS {W : Wd} {X : Cx} {E : St → XK} {e : Stmt} : PS X e (tS W E gNo) := ⟨fun _ _ _ _ _ _ h => by
  obtain ⟨env, m, S, h1, h2, h3⟩ := h
  exact h3.elim⟩
class Own (X : Cx) : Prop where
  p : PassesOwn (model X.prog X.w) X.A X.env X.xe
section
variable {P : Program} {w : World} {K : PySem.W.Frag} {mg : Str → Option Value} {base : Heap} {N : List Str} {qual : Str} {scope : Scope} {f : Addr} {cd : Value} {A : Around} {outer : List Env} {s : Shared} {H : Hp} {E : XK}
instance : Pas (cxOf (L2.CX P w) P w K mg base N qual scope f cd A outer s H E) (fun _ => E) := ⟨fun σ => passAt (W := fun cls d _ H => E cls d H) (takes_of rfl rfl rfl rfl) σ⟩
instance : Own (cxOf (L2.CX P w) P w K mg base N qual scope f cd A outer s H E) := ⟨passes_of rfl⟩
theorem w_def {W : Wd} {x : Str} {params : Arguments} {body : List Stmt} {fd : FuncData} {ps : List Str} {j : Nat} {g : En → Sto → RS} (hfr : ∀ x ∈ bNs, mg x = none) (F : FunD W.K x x params body scope [] [] f fd) (S : FnScope N ps scope) (hm : mg x = some (.ref f)) (hb : Binds W.K fd ps [])
    (h : ∀ (cd : Value) (A : Around) (outer : List Env) (s : Shared) (H : Hp) (E : XK) [Ctx W (cxOf (L2.CX P w) P w W.K mg base N x scope f cd A outer s H E) j], PSs (cxOf (L2.CX P w) P w W.K mg base N x scope f cd A outer s H E) body (tS W (fun _ => E) g)) :
    Def W P w mg base (j + 1) x ps.length (runF N.length g) := by
  refine ⟨f, fd, ps, FnZ.of F S (fun vs H Q E h => ?_) (fun cdv A outer s H vs Q E hr _ hsp => ?_), hm, F.kp, hb⟩
  · obtain ⟨_, _, _, hl, _⟩ := h
    exact hl
  · obtain ⟨m, S, ds, hl, rs, rd, p⟩ := hsp
    have : Ctx W (cxOf (L2.CX P w) P w W.K mg base N x scope f cdv A outer s H E) j := ⟨rfl, rfl, hr, hfr⟩
    exact ⟨_, h cdv A outer s H E, startE N.length ds, m, S, relDs_map rd N, rs, fin_post p⟩
end

section
variable {W : Wd} {X : Cx} {j : Nat} [C : Ctx W X j] {E : St → XK} {pos p p1 p2 p3 : Pos} {a b c e : Expr} {es rest : List Expr} {fa fb fc : FE} {fs : List FE} {ta tb : En → Sto → R Bool} {kk : Nat} {st : Stmt} {sts ss : List Stmt} {g g1 g2 : En → Sto → RS}
include C
theorem w_set (i : Nat) {x : Str} {pos' : Pos} (he : PE X e (tE W E fa)) (hN : X.N.Nodup := by exact of_decide_eq_true (by kernel_rfl)) (hi : X.N[i]? = some x := by rfl) (hx : Loc X.env.scope x := by first | exact Or.inl rfl | exact Or.inr rfl) (hs : swapsWith e (some (.Name x pos')) pos.line X.env = pure false := by rfl) (hf : X.fn x = true ∨ X.env.scope.names.lookup x = some .local := by first | exact Or.inr rfl | exact Or.inl rfl) :
    PS X (.Assign [.Name x pos'] e pos) (tS W E (gSet i fa)) := z_set hN hi hx he hs hf
theorem w_pass : PS X (.Pass pos) (tS W E gPass) := z_pass
theorem w_ex (he : PE X e (tE W E fa)) (hs : swapsWith e none pos.line X.env = pure false := by rfl) : PS X (.Expr e pos) (tS W E (gEx fa)) := z_ex he hs
theorem w_ret (he : PE X e (tE W E fa)) : PS X (.Return (some e) pos) (tS W E (gRet fa)) := z_ret he
theorem w_ite {sa sb : List Stmt} (hc : PT X c (tT W E ta)) (ha : PSs X sa (tS W E g1)) (hb : PSs X sb (tS W E g2)) : PS X (.If c sa sb pos) (tS W E (gIte ta g1 g2)) := z_ite hc ha hb
theorem w_nilS : PSs X [] (tS W E gNil) := z_nilS
theorem w_seq (h1 : PS X st (tS W E g1)) (h2 : PSs X sts (tS W E g2)) : PSs X (st :: sts) (tS W E (gSeq g1 g2)) := z_seq h1 h2
theorem w_while (n : Nat) [O : Own X] {body : List Stmt} (hc : PT X c (tT W E ta)) (hb : PSs X body (tS W E g)) : PS X (.While c body [] pos) (tS W E (gWhile ta g n)) := z_while O.p hc hb n
theorem w_for (n : Nat) [O : Own X] {tg iter : Expr} {body : List Stmt} {fi : En → Sto → R Nx} {t : Tg} (hi : PI X tg iter (tI W E fi)) (hg : PG X tg (tTg W t)) (hb : PSs X body (tS W E g)) (hs : ∀ x, foldedSetIterable iter X.env x = pure x := by (intro _; rfl)) :
    PS X (.For tg iter body [] pos) (tS W E (gFor fi t g n)) := z_for O.p C.hc hi hg hb hs
theorem w_nm (i : Nat) {x : Str} (hN : X.N.Nodup := by exact of_decide_eq_true (by kernel_rfl)) (hi : X.N[i]? = some x := by rfl) (hx : Loc X.env.scope x := by first | exact Or.inl rfl | exact Or.inr rfl) (hf : X.fn x = true ∨ X.env.scope.names.lookup x = some .local := by first | exact Or.inr rfl | exact Or.inl rfl) : PG X (.Name x pos) (tTg W (.nm i)) := z_nm hN hi hx hf
theorem w_tgnil : PGs X [] (tTgs W []) := z_tgnil
theorem w_tgcons {t : Tg} {ts : List Tg} (h1 : PG X e (tTg W t)) (h2 : PGs X es (tTgs W ts)) (hs : (assignEach (e :: es) X.env).map (·.2) = assign e X.env :: (assignEach es X.env).map (·.2) := by rfl) : PGs X (e :: es) (tTgs W (t :: ts)) := z_tgcons h1 h2 hs
theorem w_tgtup {k : Nat} {ts : List Tg} (h : PGs X es (tTgs W ts)) (hn : (assignEach es X.env).length = ts.length := by rfl) (hst : (assignEach es X.env).findIdx? (·.1) = none := by rfl) : PG X (.Tuple es k pos) (tTg W (.tp ts)) := z_tgtup C.hc C.hK h hn hst
theorem w_asg {tg : Expr} {t : Tg} (he : PE X e (tE W E fa)) (hg : PG X tg (tTg W t)) (hs : swapsWithSole [tg] e pos.line X.env = pure false := by rfl) (hw : swappedStores [tg] e X.env = pure none := by rfl) (h1 : (assignEach [tg] X.env).map (·.2) = [assign tg X.env] := by rfl) :
    PS X (.Assign [tg] e pos) (tS W E (gAsg (D0 := Unit) t fa)) := z_asg he hg hs hw h1
theorem w_par (i k : Nat) {x y : Str} {px py pt : Pos} {kt k2 : Nat} {pt2 : Pos} (ha : PA X [a, b] (tA W E (fArgs fs))) (hN : X.N.Nodup := by exact of_decide_eq_true (by kernel_rfl)) (hi : X.N[i]? = some x := by rfl) (hj : X.N[k]? = some y := by rfl) (hij : i ≠ k := by decide) (hx : X.env.scope.names.lookup x = some .local := by rfl)
    (hy : X.env.scope.names.lookup y = some .local := by rfl) (hw : swappedStores [.Tuple [.Name x px, .Name y py] kt pt] (.Tuple [a, b] k2 pt2) X.env = pure (some [x, y]) := by rfl) (hs : swapsWithSole [.Tuple [.Name x px, .Name y py] kt pt] (.Tuple [a, b] k2 pt2) pos.line X.env = pure false := by rfl) :
    PS X (.Assign [.Tuple [.Name x px, .Name y py] kt pt] (.Tuple [a, b] k2 pt2) pos) (tS W E (gPar i k (fArgs fs))) := z_par C.hc hN hi hj hij hx hy ha hw hs
theorem w_setS {value o i : Expr} {pos' : Pos} {fv fo fi : FE} (hv : PE X value (tE W E fv)) (ho : PE X o (tE W E fo)) (hi : PE X i (tE W E fi)) (ha : ∀ v, assign (.Subscript o i pos') X.env v = (do
      let ov ← holding [v] (eval o X.env)
      let iv ← holding [v, ov] (eval i X.env)
      standAt pos'
      holding [v, ov, iv] (setItem ov iv v)
      release [v, ov, iv] []) := by (intro _; rfl)) (hs : swapsWithSole [.Subscript o i pos'] value pos.line X.env = pure false := by rfl) (hw : swappedStores [.Subscript o i pos'] value X.env = pure none := by rfl) (h1 : (assignEach [.Subscript o i pos'] X.env).map (·.2) = [assign (.Subscript o i pos') X.env] := by rfl) :
    PS X (.Assign [.Subscript o i pos'] value pos) (tS W E (gSetS fv fo fi)) := z_setS (by have := C.hu; omega) hv ho hi ha hs hw h1
theorem w_yes : PTs X [] (tT W E fYes) := z_yes
theorem w_oneT (h : PT X c (tT W E ta)) : PTs X [c] (tT W E ta) := z_oneT h
theorem w_comp (own : List (Str × Nat)) (n : Nat) {elt tg iter : Expr} {ifs : List Expr} {scope : Scope} {fi : En → Sto → R Nx} {t : Tg} {ft : En → Sto → R Bool} {fe : FE} (hi : PI X tg iter (tI W E fi))
    (hg : ∀ (s : Shared) (H : Hp) (C : Addr) (cl : List (Str × Addr)) (fp : List Addr), PG (X.blk s H scope (compEnvC scope cl C X.env) fp) tg (tTg W t)) (ht : ∀ (s : Shared) (H : Hp) (C : Addr) (cl : List (Str × Addr)) (fp : List Addr), PTs (X.blk s H scope (compEnvC scope cl C X.env) fp) ifs (tT W noE ft))
    (he : ∀ (s : Shared) (H : Hp) (C : Addr) (cl : List (Str × Addr)) (fp : List Addr), PE (X.blk s H scope (compEnvC scope cl C X.env) fp) elt (tE W noE fe)) (hN : X.N.Nodup := by exact of_decide_eq_true (by kernel_rfl)) (ok : BlkOk X.N X.env.scope scope own := by exact blkOk_by (by kernel_rfl)) (hv : ∀ i ∈ t.slots, i ∈ own.map (·.2) := by decide)
    (hs : ∀ x, foldedSetIterable iter X.env x = pure x := by (intro _; rfl)) : PE X (.ListComp elt [⟨tg, iter, ifs, 0⟩] scope pos) (tE W E (fComp (own.map (·.2)) fi t ft fe n)) := z_comp C.hc hN hi ok hv hg ht he hs
theorem w_setComp (i : Nat) (own : List (Str × Nat)) (n : Nat) {y : Str} {py spos : Pos} {elt tg iter : Expr} {ifs : List Expr} {scope : Scope} {fi : En → Sto → R Nx} {t : Tg} {ft : En → Sto → R Bool} {fe : FE} (hi : PI X tg iter (tI W E fi))
    (hg : ∀ (s : Shared) (H : Hp) (C : Addr) (cl : List (Str × Addr)) (fp : List Addr), PG (X.blk s H scope (compEnvC scope cl C X.env) fp) tg (tTg W t)) (ht : ∀ (s : Shared) (H : Hp) (C : Addr) (cl : List (Str × Addr)) (fp : List Addr), PTs (X.blk s H scope (compEnvC scope cl C X.env) fp) ifs (tT W noE ft))
    (he : ∀ (s : Shared) (H : Hp) (C : Addr) (cl : List (Str × Addr)) (fp : List Addr), PE (X.blk s H scope (compEnvC scope cl C X.env) fp) elt (tE W noE fe)) (hN : X.N.Nodup := by exact of_decide_eq_true (by kernel_rfl)) (hy : X.N[i]? = some y := by rfl) (hyl : X.env.scope.names.lookup y = some .local := by rfl)
    (hsw : swapsWith (.ListComp elt [⟨tg, iter, ifs, 0⟩] scope pos) (some (.Name y py)) spos.line X.env = pure true := by rfl) (ok : BlkOk X.N X.env.scope scope own := by exact blkOk_by (by kernel_rfl)) (hv : ∀ i ∈ t.slots, i ∈ own.map (·.2) := by decide)
    (hs : ∀ x, foldedSetIterable iter X.env x = pure x := by (intro _; rfl)) : PS X (.Assign [.Name y py] (.ListComp elt [⟨tg, iter, ifs, 0⟩] scope pos) spos) (tS W E (gSet i (fComp (own.map (·.2)) fi t ft fe n))) := z_setComp C.hc hN hy hyl hsw hi ok hv hg ht he hs
/-! walks -/
theorem w_iter {tg : Expr} (he : PE X e (tE W E fa)) : PI X tg e (tI W E (fIter fa)) := z_iter C.hK he
theorem w_range1 {tg : Expr} (ha : PE X a (tE W E fa)) (hg : Gl X "range" := by rfl) (hs : starEach [a] X.env = (false, eval a X.env) :: starEach [] X.env := by rfl) (hs2 : starEach [a] X.env = [(false, eval a X.env)] := by rfl) : PI X tg (.Call (.Name "range" p) [a] [] pos) (tI W E (fRng1 fa)) := z_range1 hg (C.fr _ (by decide)) ha hs hs2
theorem w_range2 {tg : Expr} (ha : PE X a (tE W E fa)) (hb : PE X b (tE W E fb)) (hg : Gl X "range" := by rfl) (hs : starEach [a, b] X.env = (false, eval a X.env) :: starEach [b] X.env := by rfl) (hs2 : starEach [b] X.env = (false, eval b X.env) :: starEach [] X.env := by rfl)
    (hs3 : starEach [a, b] X.env = [(false, eval a X.env), (false, eval b X.env)] := by rfl) (hs4 : starEach [b] X.env = [(false, eval b X.env)] := by rfl) : PI X tg (.Call (.Name "range" p) [a, b] [] pos) (tI W E (fRng2 fa fb)) := z_range2 hg (C.fr _ (by decide)) ha hb hs hs2 hs3 hs4
theorem w_enum {tpos : Pos} {elts : List Expr} (he : PE X e (tE W E fa)) (hg : Gl X "enumerate" := by rfl) (hs : starEach [e] X.env = (false, eval e X.env) :: starEach [] X.env := by rfl) (hs2 : starEach [e] X.env = [(false, eval e X.env)] := by rfl) :
    PI X (.Tuple elts kk tpos) (.Call (.Name "enumerate" p) [e] [] pos) (tI W E (fEnum fa)) := z_enum C.hK hg (C.fr _ (by decide)) he hs hs2
theorem w_zip {tpos : Pos} {elts : List Expr} (ha : PE X a (tE W E fa)) (hb : PE X b (tE W E fb)) (hg : Gl X "zip" := by rfl) (hs : starEach [a, b] X.env = (false, eval a X.env) :: starEach [b] X.env := by rfl) (hs2 : starEach [b] X.env = (false, eval b X.env) :: starEach [] X.env := by rfl) (hpl : (backTo pos (starEach [b] X.env)).any (·.1) = false := by rfl) :
    PI X (.Tuple elts kk tpos) (.Call (.Name "zip" p) [a, b] [] pos) (tI W E (fZip fa fb)) := z_zip C.hK hg (C.fr _ (by decide)) ha hb hs hs2 hpl
theorem w_lockS (i : Nat) (h : PS X st (tS W E g)) : PS X st (tS W E (gLock i g)) := z_lockS i h
theorem w_lockE (i : Nat) (h : PE X e (tE W E fa)) : PE X e (tE W E (fLock i fa)) := z_lockE i h
theorem w_newK : PE X (.Dict [] [] pos) (tE W E fNewK) := z_newK
theorem w_newT : PE X (.Dict [] [] pos) (tE W E fNewT) := z_newT
theorem w_dispT {k v : Expr} {fk fv : FE} (hk : PE X k (tE W E fk)) (hv : PE X v (tE W E fv)) : PE X (.Dict [some k] [v] pos) (tE W E (fDispT fk fv)) := z_dispT (by have := C.hu; omega) hk hv
theorem w_disp {keys : List (Option Expr)} {values : List Expr} {fp : List (FE × FE)} (h : PPs X pos keys values (trsOf W E fp)) (hall : keys.all (·.isSome) = true := by rfl) (hl : keys.length = values.length := by rfl) (h0 : keys ≠ [] := by (intro z; cases z)) (h15 : keys.length ≤ 15 := by decide) : PE X (.Dict keys values pos) (tE W E (fDisp fp)) := z_disp h hall hl h0 h15
theorem w_ppnil : PPs X pos [] [] (trsOf W E []) := z_ppnil
theorem w_ppcons {k v : Expr} {ks : List (Option Expr)} {vs : List Expr} {fk fv : FE} {fp : List (FE × FE)} (hk : PE X k (tE W E fk)) (hv : PE X v (tE W E fv)) (hr : PPs X pos ks vs (trsOf W E fp)) : PPs X pos (some k :: ks) (v :: vs) (trsOf W E ((fk, fv) :: fp)) := z_ppcons hk hv hr
theorem w_noP : PO X none (tP W E fNoP) := z_noP
theorem w_part (h : PE X e (tE W E fa)) : PO X (some e) (tP W E (fPart fa)) := z_part h
end
end Z
set_option Elab.async false
set_option linter.all false
set_option autoImplicit false
set_option maxRecDepth 100000
set_option maxHeartbeats 2000000
/-! Z24: __init__ of an own exception over ValueError: super().__init__(value); self.value = value. -/
namespace Z
open PySem PySem.Spec PyProof.Rows L2

/-- the built-in __init__, bound to an exception, called -/
theorem mw_init {prog : Program} {w : World} {A : Around} {E : Value → Shared → Prop} {s : Shared} {u x C t0 : Addr} {rest : List Value} {Q : Value → Shared → Prop} {nm q : Str} {N : Addr} {bs bm : List Value} {hdct : Bool} {sn : List Str} {sub : List Value} {ab : Bool} {col : Option Bool} {dd : Option Addr} {k0 k1 k2 k3 k5 : Option Value}
    (hu : s.heap.get? u = some (PySem.W.kxs_mw "ValueError.__init__" x)) (hC : s.heap.get? C = some (excClassObj nm q C N bs bm hdct sn sub ab col dd k0 k1 k2 k3 k5 "ValueError.__new__")) (he : s.heap.get? x = some (PySem.W.excRec (.ref C) t0 none .none .none (.bool false))) (hz : rest.length ≤ sizeLine)
    (fin : ∀ h', (∀ b o, b ≠ x → s.heap.get? b = some o → h'.get? b = some o) → h'.get? x = some (PySem.W.excRec (.ref C) s.heap.objs.size none .none .none (.bool false)) → Q .none { s with heap := h' }) :
    wpAny (model prog w) A (call (.ref u) rest) Q E s := by
  obtain ⟨hh, g, d, tk, os⟩ := s
  refine wpAny_call (codeAny_of_tree ?_)
  show wpAny _ A.in1 (callAny (.ref u) ⟨rest, []⟩) _ _ _
  simp only [callAny]
  refine wpAny_bind (wpAny_load hu ?_)
  simp only [PySem.W.kxs_mw, show (Value.type "method-wrapper" == Value.type "method" || Value.type "method-wrapper" == Value.type "builtin_function_or_method" || Value.type "method-wrapper" == Value.type "method-wrapper") = true by decide, if_true]
  refine PySem.W.KFB.if_so (by decide) ?_
  refine wpAny_bind (PySem.W.check_bound_init F.excBase_ValueError.toExcCallFacts hC he rfl ?_)
  refine wpAny_bind (wpAny_pure (wpAny_pure ?_))
  refine ⟨plainId_quiet F.excBase_ValueError.init.plain _, codeAny_builtin F.excBase_ValueError.initEntry ?_⟩
  exact PySem.W.exc_init_tree (cls := .ref C) (t0 := t0) (dv := none) (c2 := .none) (c3 := .none) (b4 := .bool false) he hz fun h' k e' _ => fin h' k e'

theorem meth_eq {o : Expr} {n x : Str} {p2 p3 p4 : Pos} {env : Env} (hl : (p2.endLine == p4.line) = true) : eval (.Call (.Attribute o n p2) [.Name x p3] [] p4) env = (do
    let ov ← attributeBase o n env (eval o env)
    standAt p2.atName
    let (f, first) ← holding [ov] (getMethod ov n (do return (← importBound o env).getD true))
    callWith p4 f first (backTo p4 (starEach [.Name x p3] env)) []) := by
  show (do
    let ov ← attributeBase o n env (eval o env)
    standAt p2.atName
    let (f, first) ← holding [ov] (getMethod ov n (do return (← importBound o env).getD true))
    let callPos ← (if (!true) || p2.endLine == p4.line then pure p4 else do
        if ← (match o with | .Name .. => runsAnotherTextThanImportBoundAsks env | _ => pure false : Sem Bool) then return { p4 with line := 0 }
        match ← importBound o env with
        | some true => pure p4
        | some false => pure { p4 with line := p2.endLine }
        | none => pure { p4 with line := 0 })
    callWith callPos f first (backTo p4 (starEach [.Name x p3] env)) []) = _
  rw [hl]
  rfl
/-- what the written part says of a class whose __init__ is walked -/
structure SupC (K : PySem.W.Frag) (C D : Addr) : Prop where
  oex : OexC K C
  sup : PySem.W.ks_superIn K C D "__init__" = some (some (.builtin "ValueError.__init__"))
  sub : PySem.W.mroIn K C (.ref D) = some true
  ve : PySem.W.subIn K (.ref C) (.type "ValueError") = some true
  val : PySem.W.findIn K (.ref C) "value" = some none

abbrev iniBody (p0 p1 p2 p3 p4 p5 p6 p7 p8 p9 : Pos) : List Stmt := [.Expr (.Call (.Attribute (.Call (.Name "super" p0) [] [] p1) "__init__" p2) [.Name "value" p3] [] p4) p5, .Assign [.Attribute (.Name "self" p6) "value" p7] (.Name "value" p8) p9]
/-- its context -/
def icx (CX : CXT) (P : Program) (w : World) (K : PySem.W.Frag) (mg : Str → Option Value) (base : Heap) (env : Env) (A : Around) (outer : List Env) (s : Shared) (H : Hp) (E : XK) : Cx where
  prog := P
  w := w
  K := K
  mg := mg
  base := base
  A := A.deeper env
  N := ["self", "value"]
  s_0 := s
  H_0 := H
  env := env
  outer := outer
  stack := env :: outer
  ex := []
  calm := true
  fn := fun _ => false
  pn := []
  xe := fun e s' => wpAny (model P w) (A.deeper env) (leaving env e) (fun _ s'' => CX outer H s E e s'') (fun e' s'' => CX outer H s E e' s'') s'
def spI (K : PySem.W.Frag) (D : Addr) : Sp := fun vs H Q _ => ∃ (e C : Addr) (v : V), vs = [.ref e, v] ∧ H e = some (exo e C none) ∧ SupC K C D ∧ ∀ dx, H dx = none → dx ≠ e → Q .non (upd (upd H dx (exd dx [("value", v)])) e (exo e C (some dx)))
/-- the names of its scope -/
structure IniS (scope : Scope) : Prop where
  kind : scope.kind = .function
  co : scope.isCoroutine = false
  gen : scope.isGenerator = false
  nocell : ∀ x ∈ scope.names, x.2 ≠ .cell
  free : ∀ x ∈ scope.names, x.2 = .free → x.1 = "__class__"
  self : scope.names.lookup ("self" : Str) = some .local
  value : scope.names.lookup ("value" : Str) = some .local
  super : scope.names.lookup ("super" : Str) = some .globalImplicit
  cls : scope.names.lookup ("__class__" : Str) = some .free
theorem init_fn {CX : CXT} {P : Program} {w : World} {K : PySem.W.Frag} {mg : Str → Option Value} {base : Heap} {k : Nat} {f cc cda D : Addr} {qual : Str} {params : Arguments} {p0 p1 p2 p3 p4 p5 p6 p7 p8 p9 : Pos} {scope : Scope} {dV kV doc pm ct oc ccl cl : Value} {an od cdd cld : Option Addr}
    {osl ccs csl : Array (Option Value)} {vs : Array Value} {file : Str} {tf : Tok} {cdD : ClassData} {ar : Arg}
    (lk : K.lookup f = some ⟨oc, od, .func (PySem.W.ksFn "__init__" qual params (iniBody p0 p1 p2 p3 p4 p5 p6 p7 p8 p9) scope dV kV doc pm an (.ref cda) ct cc), osl⟩) (hcd : PySem.W.codeIn K (.ref cda) qual = true) (S : IniS scope)
    (hp : (params.posonlyargs ++ params.args).head? = some ar) (har : ar.arg = "self")
    (hline : (p2.endLine == p4.line) = true) (hcode : K.lookup cda = some ⟨ccl, cdd, .fields vs, ccs⟩) (hvs : vs[2]? = some (.str file tf)) (hfile : ((P.main.file : Str) == file) = true)
    (hcell : K.lookup cc = some ⟨cl, cld, .cell (some (.ref D)), csl⟩) (hD : PySem.W.clsIn K D = some cdD) (hsuper : mg "super" = none) (htop : (P.main.scope.names.lookup ("super" : Str)).isSome = false) (ho : PySem.W.nsIn K cStatics "thirdparty.any" = some none) :
    FnOk P w K mg base CX (k + 1) f (PySem.W.ksFn "__init__" qual params (iniBody p0 p1 p2 p3 p4 p5 p6 p7 p8 p9) scope dV kV doc pm an (.ref cda) ct cc) ["self", "value"] (spI K D) := by
  refine ⟨fun vs H Q E h => ?_, fun A outer s H args us vs1 Q E hr e0 hb r hsp => ?_⟩
  · obtain ⟨e, C, v, rfl, _⟩ := h
    rfl
  obtain ⟨e, C, v, rfl, he, T, hq⟩ := hsp
  cases r with
  | @cons _ u0 _ ur ra r2 =>
  obtain rfl : u0 = Value.ref e := ra
  cases r2 with
  | @cons _ u _ ur2 rv r3 =>
  cases r3
  have KX : K.In s.heap := e0.mod.kin.keeps fun b o e => (e0.bs b o e).1
  have lim : s.heap.NoLimit := e0.mod.nolimit.keeps fun b o e => (e0.bs b o e).1
  refine ks_codeAny_call_defAt (fd := PySem.W.ksFn "__init__" qual params (iniBody p0 p1 p2 p3 p4 p5 p6 p7 p8 p9) scope dV kV doc pm an (.ref cda) ct cc) (body := iniBody p0 p1 p2 p3 p4 p5 p6 p7 p8 p9) (binds := [("self", Value.ref e), ("value", u)]) hr.depth (KX _ _ lk) rfl lim (PySem.W.codeRec_of KX hcd) rfl hb S.nocell ?_ (fun h₀ hns hk => ?_) S.co S.gen S.kind
  · intro x hx
    rcases List.mem_cons.mp hx with rfl | hx
    · exact S.self
    · rcases List.mem_cons.mp hx with rfl | hx
      · exact S.value
      · cases hx
  -- the start
  let env : Env := PySem.W.ksEnv qual scope s.heap.objs.size f (.ref cda) cc
  have cells : ∀ x c, env.cells.lookup x = some c → x = "__class__" ∧ c = cc := fun x c z => by
    have z : ([("__class__", cc)] : List (Str × Addr)).lookup x = some c := z
    rw [List.lookup] at z
    split at z
    · rename_i q
      cases z
      exact ⟨eq_of_beq q, rfl⟩
    · cases z
  have ccb : base.get? cc = some ⟨cl, cld, .cell (some (.ref D)), csl⟩ := e0.mod.kin _ _ hcell
  have hcc : H cc = none := (e0.bs _ _ ccb).2
  have kc : ∀ {h' : Heap}, (∀ b o, s.heap.get? b = some o → h'.get? b = some o) → h'.IsCell cc (some (.ref D)) := fun {h'} k => ⟨_, k _ _ (KX _ _ hcell), rfl⟩
  let X : Cx := icx CX P w K mg base env A outer s H E
  have noA : ∀ b : Addr, b ∉ X.ex := fun b z => absurd (show b ∈ ([] : List Addr) from z) (by simp)
  have hok0 : HOk P w H h₀ := e0.hok.kept hk
  have hNs : h₀.Ns s.heap.objs.size (fun x => ([("self", Value.ref e), ("value", u)] : List (Str × Value)).reverse.lookup x) := hns
  have m0 : (([("self", Value.ref e), ("value", u)] : List (Str × Value)).reverse.lookup ("self" : Str)) = some (Value.ref e) := rfl
  have m1 : (([("self", Value.ref e), ("value", u)] : List (Str × Value)).reverse.lookup ("value" : Str)) = some u := rfl
  have I0 : Inv X [] [some (.ref e), some v] H ⟨h₀, s.gens, s.drawn, s.toks + 2, s.os⟩ := by
    refine ⟨⟨e0.mod, S.kind, rfl, rfl, Nat.le_refl _, fun y z c h1 h2 => ?_, fun y hy => ?_, fun y c z h => ?_, fun _ => hr.hd, Around.frames_deeper e0.frames, .inr ⟨rfl, rfl⟩, fun b z => absurd z (noA b), e0.bs, e0.bsz, fun b _ _ => noA b, fun b z => absurd z (noA b), e0.funs, e0.frf⟩,
      rfl, e0.bare, Un.kept hk, ⟨_, hNs, fun i y v' h1 h2 h3 => ?_⟩, fun y c h => ?_, e0.hok.fresh (Nat.le_refl _), fun y c h => ?_, fun p hp => absurd (show p ∈ ([] : List (Addr × Obj)) from hp) (by simp), hok0, rfl⟩
    · rw [(cells _ _ h1).1, (cells _ _ h2).1]
    · have hy : scope.names.lookup y = some .cell ∨ scope.names.lookup y = some .free := hy
      rcases hy with hy | hy
      · exact absurd rfl (S.nocell _ (PySem.mem_of_lookup hy))
      · have z := S.free _ (PySem.mem_of_lookup hy) rfl
        dsimp only at z
        subst z
        exact ⟨cc, rfl⟩
    · exact absurd (show false = true from z) (by simp)
    · match i, h1, h2 with
      | 0, h1, h2 =>
        cases h1
        cases h2
        exact ⟨.ref e, rfl, .inl ⟨S.self, m0⟩⟩
      | 1, h1, h2 =>
        cases h1
        cases h2
        exact ⟨u, rv, .inl ⟨S.value, m1⟩⟩
      | i + 2, h1, h2 => cases h1
    · rw [(cells _ _ h).2]
      exact ⟨_, kc hk⟩
    · rw [(cells _ _ h).2]
      exact hcc
  show PySem.wpAt (model P w) (A.deeper env) (.func (iniBody p0 p1 p2 p3 p4 p5 p6 p7 p8 p9) env) (execs (iniBody p0 p1 p2 p3 p4 p5 p6 p7 p8 p9) env) _ _ _
  -- the second statement, from wherever the first one leaves
  have second : ∀ s2, Inv X [] [some (.ref e), some v] H s2 → wpAny (model P w) (A.deeper env) (execs [.Assign [.Attribute (.Name "self" p6) "value" p7] (.Name "value" p8) p9] env)
      (fun fl s' => CR CX outer P w H s Q E (.ok (.ret (match fl with | .ret v => v | _ => .none))) s') X.xe s2 := fun s2 I => by
    have ps : PSs X [.Assign [.Attribute (.Name "self" p6) "value" p7] (.Name "value" p8) p9] (tOst X.K "value" (tVar 0) (tVar 1)) := pss_one (ps_ost (pe_var (i := 0) rfl (.inl S.self) (by decide) (by decide)) (pe_var (i := 1) rfl (.inl S.value) (by decide) (by decide)) rfl)
    refine wpAny_mono (ps.run [] s2 _ H { nx := fun _ H' => Q .non H', rt := fun _ _ => False } I ⟨v, rfl, .ref e, rfl, e, C, rfl, T.oex, T.val, .inl ⟨he, hq⟩⟩) (fun fl s' hs => ?_) fun _ _ x => x
    cases fl with
    | ret u =>
      obtain ⟨_, _, _, _, _, q⟩ := hs
      exact q.elim
    | next =>
      obtain ⟨σ', H', J, q⟩ := hs
      exact ⟨.non, H', J.os, J.bare, J.base, J.hok, rfl, q⟩
    | brk =>
      obtain ⟨_, _, _, q⟩ := hs
      exact False.elim q
    | cont =>
      obtain ⟨_, _, _, q⟩ := hs
      exact False.elim q
  have hint : interactive env = false := by
    show (scope.kind == .module && _) = false
    rw [S.kind]
    rfl
  obtain ⟨oD, hD1, hD2⟩ : ∃ oD, h₀.get? D = some oD ∧ oD.data = .cls cdD := by
    have z := hD
    unfold PySem.W.clsIn at z
    split at z
    · rename_i c d cd' sl ho
      cases z
      exact ⟨_, I0.kIn _ _ ho, rfl⟩
    · cases z
  obtain ⟨nm, q0, N0, bs, bm, sn, sub, ab, col, dd, k0, k1, k2, k3, k5, hCl, hbm⟩ := T.oex.cls
  have hcl : PySem.W.clsIn K C = some { name := nm, bases := bs, mro := .ref C :: bm, ns := N0, qualname := q0, hasDict := true, slotNames := sn, subclasses := sub, abstract := ab, collection := col, hasDel := false } := by unfold PySem.W.clsIn; rw [hCl] <;> rfl
  have eC : e ≠ C := fun z => by
    have b0 := e0.mod.kin _ _ hCl
    have b1 := (e0.bs _ _ b0).2
    rw [← z, he] at b1
    cases b1
  obtain ⟨t1, hx0⟩ := exo_at I0.hok he
  refine ks_wpAt_execs_cons (ks_wpAt_Expr_any (ks_wpAt_MethodCall (ks_wpAt_super_base (env := env) S.super S.cls (by decide) rfl (I0.kIn _ _ lk) rfl hp rfl (I0.kIn _ _ hcode) rfl hvs hfile htop ?_) (meth_eq hline)) hint rfl)
  obtain ⟨mb, hb1, hb2⟩ := I0.mod.blt
  refine PySem.W.ks_loadName_global S.kind S.super (Calls.loadGlobal_builtin (env := env) (I0.mod.glob.keeps I0.bk) hsuper (hb1.keeps I0.bk) ((hb2 _ (by decide)).trans (by decide +kernel)) ⟨rfl, ?_⟩)
  refine wpAny_loadName_free S.kind S.cls rfl (kc hk) ?_
  refine wpAny_loadName_local S.kind (show scope.names.lookup ar.arg = some .local by rw [har]; exact S.self) hNs (by rw [har]; exact m0) ?_
  refine ks_wpAny_isType_cls hD1 hD2 ⟨rfl, ?_⟩
  refine ks_wpAny_call_super hD1 hD2 hx0 rfl (fun c z => by cases z) (PySem.W.looks_mroIn I0.kIn T.sub) (fun h1 e1 k1' => ?_)
  have I1 : Inv X [] [some (.ref e), some v] H ⟨h1, s.gens, s.drawn, s.toks + 2, s.os⟩ := I0.kept (t' := s.toks + 2) k1'
  obtain ⟨t2, hx1⟩ := exo_at I1.hok he
  have hm := T.sup
  unfold PySem.W.ks_superIn at hm
  rw [hcl] at hm
  have hI : PySem.W.Looks (model P w) h1 (isInstance (.ref e) (.type "ValueError")) true := (PySem.W.InstAt.type (od := none) ⟨hx1, rfl, rfl, True.intro⟩).andThen (PySem.W.looks_subIn I1.kIn T.ve)
  refine PySem.W.kxs_getMethod PySem.W.kxs_ValueError e1 (PySem.W.looks_opaque I1.kIn ho) (l₀ := .ref C :: bm) ((PySem.W.looks_clsIn I1.kIn hcl).andThen .now) rfl I1.kIn hm hI eC (by decide) ?_
  have I2 : Inv X [] [some (.ref e), some v] H ⟨h1.push (PySem.W.kxs_mw "ValueError.__init__" e), s.gens, s.drawn, s.toks + 2 + 1, s.os⟩ := I1.kept (t' := s.toks + 2 + 1) fun b o z => Heap.get?_push_of_some _ z
  have hmw : (h1.push (PySem.W.kxs_mw "ValueError.__init__" e)).get? h1.objs.size = some (PySem.W.kxs_mw "ValueError.__init__" e) := Heap.get?_push_at rfl rfl
  have lt1 : s.heap.objs.size < h1.objs.size := I1.lt
  have nfs : h1.objs.size ∉ X.fs := I1.nofs (Nat.le_refl _)
  have I3 : Inv X [(h1.objs.size, PySem.W.kxs_mw "ValueError.__init__" e)] [some (.ref e), some v] H ⟨h1.push (PySem.W.kxs_mw "ValueError.__init__" e), s.gens, s.drawn, s.toks + 2 + 1, s.os⟩ := I2.pins_of fun p hp => by
    rcases List.mem_cons.mp hp with rfl | hp
    · exact ⟨hmw, I1.hok.fresh (Nat.le_refl _), fun z => absurd lt1 (by
        have z : h1.objs.size = s.heap.objs.size := z
        omega), nfs, fun v z => by cases z⟩
    · cases hp
  have pa : PA X [.Name "value" p3] (tCons (tVar 1) tNil) := pa_cons (pe_var (i := 1) rfl (.inl S.value) (by decide) (by decide)) pa_nil
  refine PySem.W.kxs_callWith (i := "ValueError.__init__") (x := e) rfl (Calls.evalArgs_plain (wpAny_mono (pa.run p4 _ _ _ H (fun vs H' => vs = [v] ∧ H' = H) I3 ⟨v, rfl, rfl, rfl⟩) (fun us s3 hs => ?_) fun _ _ x => x))
  obtain ⟨vs3, H3, I4, r4, rfl, rfl⟩ := hs
  have pin := (I4.pin _ (List.mem_append_right _ (List.mem_cons_self ..))).1
  refine ⟨pin, ?_⟩
  obtain ⟨t3, hx3⟩ := exo_at I4.hok he
  have hl3 : us.length ≤ sizeLine := by
    rw [← Paired.length r4, sizeLine_eq]
    show 1 ≤ _
    decide
  refine mw_init pin (I4.kIn _ _ hCl) hx3 hl3 fun h' k he' => ?_
  obtain ⟨hp3, g3, d3, tk3, os3⟩ := s3
  have J := I4.write (t' := tk3) (x := e) (e := e) (o := exo e C none) (by rw [he]; exact True.intro) (.inl rfl) k ⟨_, he'⟩ (exo_ok he')
  have eu : upd H3 e (exo e C none) = H3 := by
    funext b
    by_cases hb : b = e
    · rw [hb, upd_same, he]
    · rw [upd_ne hb]
  rw [eu] at J
  exact wpAt_of_wpAny (second _ (J.pins_of fun p hp => by cases hp))
end Z
set_option Elab.async false
set_option linter.all false
set_option autoImplicit false
set_option maxRecDepth 100000
set_option maxHeartbeats 2000000
/-! Z25: an own exception raised. -/
namespace Z
open PySem PySem.Spec PyProof.Rows L2

/-- what is known of the class x, the c-th -/
structure RaiC (W : Wd) (P : Program) (w : World) (mg : Str → Option Value) (base : Heap) (x : Str) (c : Nat) : Prop where
  ok : ∃ (D fI : Addr) (fd : FuncData), SupC W.K (W.ca c) D ∧ PySem.W.findIn W.K (.ref (W.ca c)) "__init__" = some (some (.ref fI)) ∧ PySem.W.typeIn W.K (.ref fI) = some (.type "function") ∧
    FnOk P w W.K mg base CX0 1 fI fd ["self", "value"] (spI W.K D) ∧ Binds W.K fd ["self", "value"] [] ∧ mg x = some (.ref (W.ca c))
def gRaise (c : Nat) (f : FE) : En → Sto → RS := fun env S => (f env S).st env fun d S1 => .exc c d env S1
class Tak (X : Cx) (E : outParam (St → XK)) : Prop where
  t : Takes X (fun cls d σ H => E σ cls d H)
instance {P : Program} {w : World} {K : PySem.W.Frag} {mg : Str → Option Value} {base : Heap} {N : List Str} {qual : Str} {scope : Scope} {f : Addr} {cd : Value} {A : Around} {outer : List Env} {s : Shared} {H : Hp} {E : XK} :
    Tak (cxOf (L2.CX P w) P w K mg base N qual scope f cd A outer s H E) (fun _ => E) := ⟨takes_of rfl rfl rfl rfl⟩
theorem raise_heap {H : Hp} {a dx C : Addr} {v : V} (hn : H a = none) (hd : dx ≠ a) : upd (del (upd (upd (upd H a (exo a C none)) dx (exd dx [("value", v)])) a (exo a C (some dx))) a) dx (.xd [("value", v)]) = upd H dx (.xd [("value", v)]) := by
  funext b
  by_cases e1 : b = dx
  · rw [e1, upd_same, upd_same]
  · rw [upd_ne e1, upd_ne e1]
    by_cases e2 : b = a
    · rw [e2, del_same, hn]
    · rw [del_ne e2, upd_ne e2, upd_ne e1, upd_ne e2]
theorem z_raise {W : Wd} {X : Cx} {E : St → XK} {x : Str} {c : Nat} {e : Expr} {p pos pos' : Pos} {fa : FE} (hK : X.K = W.K) (hc : X.calm = true) (hr : Room 2 X.A) (RC : RaiC W X.prog X.w X.mg X.base x c) (tk : Takes X (fun cls d σ H => E σ cls d H)) (hg : Gl X x) (ha : PE X e (tE W E fa))
    (hdb : (x == ("__debug__" : Str)) = false) (hs : starEach [e] X.env = (false, eval e X.env) :: starEach [] X.env) (hpl : (backTo pos (starEach [] X.env)).any (·.1) = false) :
    PS X (.Raise (some (.Call (.Name x p) [e] [] pos)) none pos') (tS W E (gRaise c fa)) := by
  obtain ⟨D, fI, fd, T, iC, tI, F1, hb, hm⟩ := RC.ok
  rw [← hK] at T iC tI F1 hb
  have mk := pmk_oex (x := x) (p := p) (pos := pos) (dvs := []) T.oex iC tI F1 hr hb .nil pass0 hg hm (pa_cons ha pa_nil hs) hdb hs hpl
  refine ps_imp (ps_raise hc tk mk) fun D0 σ H h => ?_
  refine (tS.run (rl := RelD W) (g := fun env d S1 => .exc c d env S1) h).mono fun v H1 q => ?_
  obtain ⟨env, m, S, d, k1, k2, k3, k4⟩ := q
  refine ⟨show 1 ≤ 1000 by decide, fun a hn => ⟨a, W.ca c, v, rfl, upd_same, T, fun dx hdx hne => ⟨rfl, dx, [("value", v)], upd_same, ?_, ?_, ?_⟩⟩⟩
  · rw [upd_ne hne, upd_same]
  · rw [upd_ne hne] at hdx
    exact hdx
  · rw [upd_ne hne] at hdx
    rw [raise_heap hn hne]
    exact k4 _ m σ dx v (ext_upd hdx) (k2.upd hdx) (RelEn.ext (ext_upd hdx) k1) upd_same (k2.off hdx) (RelD.ext (ext_upd hdx) _ _ k3)
theorem w_raise {W : Wd} {X : Cx} {j : Nat} [C : Ctx W X j] {E : St → XK} [T : Tak X E] {x : Str} {e : Expr} {p pos pos' : Pos} {fa : FE} (c : Nat) (RC : RaiC W X.prog X.w X.mg X.base x c) (ha : PE X e (tE W E fa)) (hj : 2 ≤ j := by decide) (hg : Gl X x := by rfl)
    (hdb : (x == ("__debug__" : Str)) = false := by decide) (hs : starEach [e] X.env = (false, eval e X.env) :: starEach [] X.env := by rfl) (hpl : (backTo pos (starEach [] X.env)).any (·.1) = false := by rfl) :
    PS X (.Raise (some (.Call (.Name x p) [e] [] pos)) none pos') (tS W E (gRaise c fa)) := z_raise C.hK C.hc (C.hr.toRoom.mono hj) RC T.t hg ha hdb hs hpl
end Z
set_option Elab.async false
set_option linter.all false
set_option autoImplicit false
set_option maxRecDepth 100000
set_option maxHeartbeats 2000000
/-! Z26: list(d), sorted(d) of a dict with tuple keys. -/
namespace Z
open PySem PySem.Spec PyProof.Rows L2

def keysT (kvs : List (List Key × D)) : List D := kvs.map fun p => D.tup (p.1.map kD)
def dtOf (S : Sto) : D → Option (List (List Key × D))
  | .loc k => match S.get k with
    | some (.dt ps) => some ps
    | some (.fz (.dt ps)) => some ps
    | _ => none
  | _ => none
def lstT (S : Sto) (d : D) : Option (D × Sto) := match dtOf S d with
  | some ps => some (.loc S.n, S.push (.lst (keysT ps)))
  | none => none
def opListT : OpA := fun as S => on1 (lstT S) as
def srtT (S : Sto) (d : D) : Option (D × Sto) := match dtOf S d with
  | some ps => srtD S (keysT ps)
  | none => none
def opSortedT : OpA := fun as S => on1 (srtT S) as
section
variable {X : Cx} {W : Wd} {H : Hp} {m : Nat → Addr} {n : Nat}
theorem off_tup {S : Sto} (rs : RelS W H m S) {b : Addr} {vs : List V} (h : H b = some (.tup vs)) : Off m S.n b := fun k hk z => by
  obtain ⟨o, ho, g, hm, q⟩ := rs.at_ k hk
  rw [z, h] at hm
  cases hm
  cases o with
  | hid => exact q.elim
  | lst _ => obtain ⟨_, z, _⟩ := q; cases z
  | dk _ => obtain ⟨_, z, _⟩ := q; cases z
  | dt _ => obtain ⟨_, z, _⟩ := q; cases z
  | fz _ => obtain ⟨_, _, z, _⟩ := q; cases z
  | ins _ _ => obtain ⟨_, _, z, _⟩ := q; cases z
theorem dtOf_ok {S : Sto} (rs : RelS W H m S) {d : D} {v : V} {ps : List (List Key × D)} (h : dtOf S d = some ps) (r : RelD W H m S.n d v) : ∃ a vs, v = .ref a ∧ Rd H a (.dT vs) ∧ KvR W H m S.n ps vs := by
  cases d <;> try cases h
  rename_i k
  obtain ⟨_, ea⟩ := relD_locE r
  have h : (match S.get k with
    | some (.dt ps) => some ps
    | some (.fz (.dt ps)) => some ps
    | _ => none) = some ps := h
  split at h
  · rename_i q
    cases h
    obtain ⟨vs, h1, h2⟩ := dt_get rs (.inl q)
    exact ⟨_, vs, ea, h1, h2⟩
  · rename_i q
    cases h
    obtain ⟨vs, h1, h2⟩ := dt_get rs (.inr q)
    exact ⟨_, vs, ea, h1, h2⟩
  · cases h
theorem keys_rel {S : Sto} (rs : RelS W H m S) : ∀ {ps : List (List Key × D)} {vs : List (List Key × V)} {bs : List Addr}, KvR W H m S.n ps vs → IsKeys H vs bs → RelDs W H m S.n (keysT ps) (bs.map V.ref)
  | [], vs, bs, r, h => by
    have e : vs = [] := r
    subst e
    cases h
    show RelDs W H m S.n [] []
    unfold RelDs
    rfl
  | p :: ps, vs, bs, r, h => by
    obtain ⟨u, us, e, r1, r2⟩ := r
    subst e
    cases h with
    | @cons _ b _ bs' h1 h2 =>
      show RelDs W H m S.n (D.tup (p.1.map kD) :: keysT ps) (V.ref b :: bs'.map V.ref)
      unfold RelDs
      exact ⟨_, _, rfl, of_tup ⟨h1, off_tup rs h1⟩ (kD_rel p.1), keys_rel rs r2 h2⟩
theorem c_listT (hc : X.calm = true) : CallR X (.type "list") (rOpA W opListT) := by
  intro pins s σ H xs us Q I r h
  obtain ⟨m, S, as, rs, ra, p⟩ := h
  obtain ⟨d, v, ex, rv, p⟩ := on1_ok ra p
  unfold lstT at p
  cases q : dtOf S d with
  | none => rw [q] at p; exact p.elim
  | some ps =>
    rw [q] at p
    obtain ⟨a, vs, ea, hd, kv⟩ := dtOf_ok rs q rv
    subst ea ex
    exact call_list_dT hc pins s σ H _ us Q I r ⟨a, vs, rfl, hd, fun pp bs hp hb => p.newS (o := .lst (bs.map V.ref)) rs hp ⟨_, rfl, keys_rel rs kv hb⟩ relD_loc⟩
theorem sorted_dt {pins : List (Addr × Obj)} {σ : St} {s : Shared} {d : Addr} {kvs : List (List Key × V)} {ds : List D} {ps : List PyData} {E1 : Value → Shared → Prop} {Q : Value → Shared → Prop} (hK : X.K = W.K) (hc : X.calm = true) (hu : X.A.units + 64 < cLine) (I : Inv X pins σ H s) (hd : Rd H d (.dT kvs))
    (r : ∀ bs, IsKeys H kvs bs → RelDs W H m n ds (bs.map V.ref))
    (hp : toPs ds = some ps) (ok : okSrt ps = true) (h : ∀ p us s', H p = none → RelDs W H m n (srtL leD ds) us → us.length ≤ sizeLine → Inv X pins σ (upd H p (.lst us)) s' → Q (.ref p) s') : wpAny (model X.prog X.w) X.A (call (.builtin "sorted") [.ref d]) Q E1 s := by
  obtain ⟨z, hs, ks, pr, o, es, ep, ho, hx, hdt, he, hn⟩ := (show ObjOk X.prog X.w H s.heap d (.dT kvs) from hd.ok I.hok)
  have l1 : es.size = ks.length := size_of_entries he
  have l2 : kvs.length = ks.length := Paired.length pr
  refine Calls.call_function_entry PyProof.Rows.kind_sorted PyProof.Rows.plain_sorted PyProof.Rows.entry_sorted (PyProof.Rows.args_sorted1 _) ?_
  unfold Builtin.«sorted»
  refine wpAny_bind (m := checkCount "sorted" 1 1 _) (wpAny_pure ?_)
  refine wpAny_bind (PySem.W.kdu_collect (A := X.A.in1) (kdl_raw hs hx hdt) (I.ok.hd hc) ho (by omega) fun h' tk acc hk hacc => ?_)
  have ea : acc.toList = ks.map fun x => Value.ref x.2.1 := by
    have hl : acc.toList.length = ks.length := by rw [Array.length_toList, hacc.1]; exact l1
    apply List.ext_getElem?
    intro j
    rw [List.getElem?_map]
    cases hj : acc.toList[j]? with
    | none =>
      have h1 := List.getElem?_eq_none_iff.mp hj
      rw [List.getElem?_eq_none (by omega)]
      all_goals rfl
    | some v =>
      obtain ⟨en, hen, hv⟩ := hacc.2 j v (by rw [← Array.getElem?_toList]; exact hj)
      have qe := entry_at he j
      rw [hen] at qe
      cases hb : ks[j]? with
      | none =>
        rw [hb] at qe
        exact nomatch (show some en = none from qe)
      | some b =>
        rw [hb] at qe
        have e2 : en = entryOfKey (tupleKind (mixKind X.prog X.w)) b := Option.some.inj qe
        rw [hv, e2]
        all_goals rfl
  have eb : acc.toList = (ks.map fun x => x.2.1).map Value.ref := by rw [ea, List.map_map]; all_goals rfl
  have rv : Vals ((ks.map fun x => x.2.1).map V.ref) acc.toList := by rw [eb]; exact vals_refs _
  have r := r _ (isKeys_of pr)
  generalize (ks.map fun x => x.2.1).map V.ref = vs at r rv
  have I1 : Inv X pins σ H { s with heap := h', toks := tk } := I.kept hk
  obtain ⟨bs, e1, e2, e3⟩ := relDs_pairs r
  obtain ⟨o1, o2, o3⟩ := okSrt_ok ok
  have em : bs.map (fun p => dP p.1) = ps := by
    have z := toPs_map hp
    rw [← e1, List.map_map] at z
    exact z
  have hlen : bs.length = vs.length := by rw [← e2, List.length_map]
  have hal : acc.toList.length = bs.length := by rw [hlen]; exact (Paired.length rv).symm
  have hz : bs.length ≤ sizeLine := by
    rw [← hal, ea, List.length_map, ← l2]
    exact z
  have ev : PySem.W.EachIs (fun (v : Value) (p : D × V) => L2.RelV p.2 v) acc.toList bs := each_of (by rw [e2]; exact rv)
  have er : PySem.W.EachIs (fun (v : Value) (p : D × V) => ∃ as, Reads h' v (dP p.1) as) acc.toList bs := by
    have key : ∀ {us : List Value} {bs : List (D × V)}, (∀ p ∈ bs, RelD W H m n p.1 p.2) → (∀ p ∈ bs, toP p.1 = some (dP p.1)) → PySem.W.EachIs (fun (v : Value) (p : D × V) => L2.RelV p.2 v) us bs → PySem.W.EachIs (fun (v : Value) (p : D × V) => ∃ as, Reads h' v (dP p.1) as) us bs := by
      intro us bs h1 h2 h
      induction h with
      | nil => exact .nil
      | @cons u p us bs hu t ih =>
        refine .cons ?_ (ih (fun q hq => h1 q (List.mem_cons_of_mem _ hq)) fun q hq => h2 q (List.mem_cons_of_mem _ hq))
        have d := dp_of p.1 p.2 _ (h1 p (List.mem_cons_self ..)) (h2 p (List.mem_cons_self ..))
        rw [← hK] at d
        exact Dp.reads I1 _ _ _ d hu
    exact key e3 (fun p hp2 => dps_mem hp p.1 (by rw [← e1]; exact List.mem_map_of_mem hp2)) ev
  have sq : bs.mergeSort (PySem.W.dataLe false fun p : D × V => dP p.1) = srtL (fun p q => leD p.1 q.1) bs := by
    have t := (PySem.W.sortLe_total _ false _ : PySem.W.TotalLe (PySem.W.dataLe (β := D × V) false fun p => dP p.1))
    exact (srtL_eq (fun a b c => t.trans a b c) (fun a b => by rw [Bool.or_eq_true]; exact t.total a b) bs).symm
  refine wpAny_bind (wpAny_newList ?_ (by rw [hal]; exact hz))
  have hoL : (h'.push (seqObj "list" acc.toList.toArray 0)).get? h'.objs.size = some (seqObj "list" acc.toList.toArray 0) := Heap.get?_push_size _ rfl
  show wpAny _ _ _ _ _ { s with heap := h'.push (seqObj "list" acc.toList.toArray 0), toks := tk }
  have er' : PySem.W.EachIs (fun (v : Value) (p : D × V) => ∃ as, Reads (PySem.W.sortingHeap (h'.push (seqObj "list" acc.toList.toArray 0)) h'.objs.size acc.toList) v (dP p.1) as) acc.toList bs :=
    er.mono fun _ _ ⟨as, q⟩ => ⟨as, PyProof.Rows.Reads.keeps (fun b u e => PySem.W.sortingHeap_old (Nat.ne_of_lt (Heap.lt_size e)) (Heap.get?_push_of_some _ e)) q⟩
  refine wpAny_bind (wpAny_holding (wpAny_call_entry PyProof.Rows.slot_list_sort ⟨_, hoL, rfl⟩ PyProof.Rows.entry_list_sort
    (PySem.W.list_sort_vals (s := { s with heap := h'.push (seqObj "list" acc.toList.toArray 0), toks := tk }) (κ := PySem.W.dataKind (PySem.W.sortingHeap (h'.push (seqObj "list" acc.toList.toArray 0)) h'.objs.size acc.toList) (bs.map fun p => dP p.1)) hoL
      (PySem.W.SortsAt.data (s := { s with heap := PySem.W.sortingHeap (h'.push (seqObj "list" acc.toList.toArray 0)) h'.objs.size acc.toList, toks := tk }) (PySem.W.each_map (R := fun v d => ∃ as, Reads (PySem.W.sortingHeap (h'.push (seqObj "list" acc.toList.toArray 0)) h'.objs.size acc.toList) v d as) (fun p : D × V => dP p.1) er') (by rw [em]; exact o1) (by rw [em]; exact o2) (PySem.W.bound_map fun p hp2 => ?_))
      (by rw [hal]; exact hz) ⟨_, rfl, ?_⟩) (PyProof.Rows.args_list_sort _)))
  · have z := o3 (dP p.1) (by rw [← em]; exact List.mem_map_of_mem hp2)
    show X.A.units + 2 + (dP p.1).depth < cLine
    omega
  · have eo := PySem.W.sortVals_data false ev er' (by rw [em]; exact o1)
    generalize PySem.W.sortVals (PySem.W.dataKind (PySem.W.sortingHeap (h'.push (seqObj "list" acc.toList.toArray 0)) h'.objs.size acc.toList) (bs.map fun p => dP p.1)) false acc.toList acc.toList = out at eo
    rw [sq] at eo
    have vo := vals_of_each eo
    have rl : RelDs W H m n (srtL leD ds) ((srtL (fun p q : D × V => leD p.1 q.1) bs).map (·.2)) := by
      have z := pairs_relDs (W := W) (H := H) (m := m) (n := n) (bs := srtL (fun p q : D × V => leD p.1 q.1) bs) fun p hp2 => e3 p (mem_srtL.mp hp2)
      rw [srtL_map (le := fun p q : D × V => leD p.1 q.1) (f := fun p : D × V => p.1) (le' := leD) (fun a b => rfl), e1] at z
      exact z
    have hl2 : ((srtL (fun p q : D × V => leD p.1 q.1) bs).map (·.2)).length ≤ sizeLine := by rw [List.length_map, len_srtL]; exact hz
    obtain ⟨e', he'⟩ := PyProof.Rows.sortedHeap_at (vs := acc.toList) (out := out.toArray) hoL
    refine wpAny_pure ⟨_, rfl, h _ _ _ (I1.hok.fresh (Nat.le_refl _)) rl hl2 (I1.laid (t' := tk) (fun b u e => ?_) (Nat.le_refl _) ⟨hl2, out, e', vo, he'⟩)⟩
    have hb : b < h'.objs.size := Heap.lt_size e
    rw [PyProof.Rows.sortedHeap_old (Nat.ne_of_lt hb) (by rw [size_push']; exact Nat.lt_succ_of_lt hb)]
    exact Heap.get?_push_of_some _ e
theorem c_sortedT (hK : X.K = W.K) (hc : X.calm = true) (hu : X.A.units + 64 < cLine) : CallR X (.builtin "sorted") (rOpA W opSortedT) := by
  intro pins s σ H xs us Q I r h
  obtain ⟨m, S, as, rs, ra, p⟩ := h
  obtain ⟨d, v, ex, rv, p⟩ := on1_ok ra p
  unfold srtT at p
  cases q0 : dtOf S d with
  | none => rw [q0] at p; exact p.elim
  | some kv0 =>
    rw [q0] at p
    obtain ⟨a, vs, ea, hd, kv⟩ := dtOf_ok rs q0 rv
    subst ea ex
    dsimp only at p
    unfold srtD at p
    cases q : toPs (keysT kv0) with
    | none => rw [q] at p; exact p.elim
    | some ps =>
      rw [q] at p
      dsimp only at p
      by_cases ho : okSrt ps = true
      · rw [if_pos ho] at p
        rw [Vals.ref1 r]
        refine sorted_dt hK hc hu I hd (fun bs hb => keys_rel rs kv hb) q ho fun pp us' s' hp rl hz J => ?_
        exact ⟨.ref pp, _, J, rfl, p.newS (o := .lst us') rs hp ⟨us', rfl, rl⟩ relD_loc⟩
      · rw [if_neg ho] at p
        exact p.elim
section
variable {j : Nat} [C : Ctx W X j] {E : St → XK} {pos p : Pos} {e : Expr} {es : List Expr} {fs : List FE}
include C
theorem w_sortedT (ha : PA X (e :: es) (tA W E (fArgs fs))) (hg : Gl X "sorted" := by rfl)
    (he : starEach (e :: es) X.env = (false, eval e X.env) :: starEach es X.env := by rfl) (hpl : (backTo pos (starEach es X.env)).any (·.1) = false := by rfl) : PE X (.Call (.Name "sorted" p) (e :: es) [] pos) (tE W E (fOpA opSortedT (fArgs fs))) :=
  z_callB (c_sortedT C.hK C.hc (by have := C.hu; omega)) hg (C.fr _ (by decide)) (by decide +kernel) ha (by decide) (by decide) he hpl
theorem w_listT (ha : PA X (e :: es) (tA W E (fArgs fs))) (hg : Gl X "list" := by rfl)
    (he : starEach (e :: es) X.env = (false, eval e X.env) :: starEach es X.env := by rfl) (hpl : (backTo pos (starEach es X.env)).any (·.1) = false := by rfl) : PE X (.Call (.Name "list" p) (e :: es) [] pos) (tE W E (fOpA opListT (fArgs fs))) :=
  z_callTy (c_listT C.hc) hg (C.fr _ (by decide)) (by decide +kernel) ha (by decide) (by decide) he hpl
end
end
end Z
set_option Elab.async false
set_option linter.all false
set_option autoImplicit false
set_option maxRecDepth 100000
set_option maxHeartbeats 2000000
/-! Z27: a closure without parameters, called where its cells stand in the base. -/
namespace Z
open PySem PySem.Spec PyProof.Rows L2

abbrev lenv (L : LamD) (cl : List (Str × Addr)) (loc f c' : Addr) : Env := PySem.W.envX L.qual L.scope loc f (.ref c') (cloFrom cl L.scope.names [])
def lcx (P : Program) (w : World) (K : PySem.W.Frag) (mg : Str → Option Value) (base : Heap) (N : List Str) (L : LamD) (cl : List (Str × Addr)) (f c' : Addr) (A : Around) (outer : List Env) (s : Shared) (H : Hp) (E : XK) : Cx where
  prog := P
  w := w
  K := K
  mg := mg
  base := base
  A := A.deeper (lenv L cl s.heap.objs.size f c')
  N := N
  s_0 := s
  H_0 := H
  env := lenv L cl s.heap.objs.size f c'
  outer := outer
  stack := lenv L cl s.heap.objs.size f c' :: outer
  ex := []
  fn := fun _ => false
  calm := true
  pn := []
  xe := fun e s' => wpAny (model P w) (A.deeper (lenv L cl s.heap.objs.size f c')) (leaving (lenv L cl s.heap.objs.size f c') e) (fun _ s'' => L2.CX P w outer H s E e s'') (fun e' s'' => L2.CX P w outer H s E e' s'') s'
/-- the cells' values stand in the base -/
structure Lent (W : Wd) (base : Heap) : Prop where
  inj : ∀ x y c, W.cl.lookup x = some c → W.cl.lookup y = some c → x = y
  at_ : ∀ x u, W.cvl x = some u → ∃ c o w, W.cl.lookup x = some c ∧ base.get? c = some o ∧ o.data = .cell (some w) ∧ L2.RelV u w
/-- a lambda's scope: its names are free ones in N -/
def lamC (N : List Str) (sc : Scope) : Bool := (match sc.kind with | .function => true | _ => false) && (!sc.isCoroutine && (!sc.isGenerator && sc.names.all fun y => match y.2 with
  | .local => false
  | .cell => false
  | .free => decide (y.1 ∈ N)
  | _ => true))
structure LamC (N : List Str) (sc : Scope) : Prop where
  kind : sc.kind = .function
  co : sc.isCoroutine = false
  gen : sc.isGenerator = false
  own : ∀ y ∈ sc.names, y.2 ≠ .local ∧ y.2 ≠ .cell
  free : ∀ y ∈ sc.names, y.2 = .free → y.1 ∈ N
theorem lamC_ok {N : List Str} {sc : Scope} (h : lamC N sc = true) : LamC N sc := by
  unfold lamC at h
  simp only [Bool.and_eq_true, Bool.not_eq_true', List.all_eq_true] at h
  obtain ⟨h1, h2, h3, h4⟩ := h
  refine ⟨?_, h2, h3, fun y hy => ⟨fun z => ?_, fun z => ?_⟩, fun y hy z => ?_⟩
  · split at h1
    · assumption
    · cases h1
  · have q := h4 y hy
    rw [z] at q
    cases q
  · have q := h4 y hy
    rw [z] at q
    cases q
  · have q := h4 y hy
    rw [z] at q
    exact of_decide_eq_true q
/-- the k-th lambda does fe at the values of its cells N -/
structure LamOk (W : Wd) (P : Program) (w : World) (mg : Str → Option Value) (base : Heap) (j k : Nat) (N : List Str) (fe : FE) : Prop where
  nd : N.Nodup
  sc : LamC N (W.lam k).scope
  bind : ∀ clos pm c' ctv, bindArgs (PySem.W.kla_fn "<lambda>" (W.lam k).qual (W.lam k).params (W.lam k).body (W.lam k).scope clos pm (.ref c') ctv) ⟨[], []⟩ = pure []
  body : ∀ (f c' : Addr) (A : Around) (outer : List Env) (s : Shared) (H : Hp) (E : XK), RoomG j (A.deeper (lenv (W.lam k) W.cl s.heap.objs.size f c')) → PE (lcx P w W.K mg base N (W.lam k) W.cl f c' A outer s H E) (W.lam k).body (tE W (fun _ => E) fe)
theorem cellsV {W : Wd} {base : Heap} (B : Lent W base) {H : Hp} {m : Nat → Addr} {n : Nat} {vals : List (Str × D)} (h : ∀ p ∈ vals, ∃ u, W.cvl p.1 = some u ∧ RelD W H m n p.2 u) : ∀ {N : List Str} {ds : List D}, N.mapM (fun x => vals.lookup x) = some ds →
    ∃ us : List V, us.length = N.length ∧ RelDs W H m n ds us ∧ ∀ (i : Nat) (x : Str) (u : V), N[i]? = some x → us[i]? = some u → W.cvl x = some u
  | [], ds, e => by
    rw [List.mapM_nil] at e
    cases e
    refine ⟨[], rfl, ?_, fun i x u e _ => by cases e⟩
    unfold RelDs
    rfl
  | y :: N, ds, e => by
    rw [List.mapM_cons] at e
    cases q : vals.lookup y with
    | none => rw [q] at e; cases e
    | some d =>
      rw [q] at e
      cases q2 : N.mapM (fun x => vals.lookup x) with
      | none => rw [q2] at e; cases e
      | some ds2 =>
        rw [q2] at e
        cases e
        obtain ⟨us, h1, h2, h3⟩ := cellsV B h q2
        obtain ⟨u, h4, h5⟩ := h (y, d) (PySem.mem_of_lookup q)
        refine ⟨u :: us, by rw [List.length_cons, List.length_cons, h1], by unfold RelDs; exact ⟨u, us, rfl, h5, h2⟩, fun i x v e1 e2 => ?_⟩
        cases i with
        | zero =>
          cases e1
          cases e2
          exact h4
        | succ i => exact h3 i x v e1 e2
theorem lam_begin {W : Wd} {P : Program} {w : World} {mg : Str → Option Value} {base : Heap} {N : List Str} {k : Nat} {f c' : Addr} {A : Around} {outer : List Env} {s : Shared} {H : Hp} {E : XK} {h₁ : Heap} {tk : Nat} {us : List V} (B : Lent W base) (S : LamC N (W.lam k).scope) (nd : N.Nodup)
    (e0 : Env0 P w W.K mg base A outer s H) (hd : A.handled = none) (hl : us.length = N.length) (hv : ∀ (i : Nat) (x : Str) (u : V), N[i]? = some x → us[i]? = some u → W.cvl x = some u)
    (hns : h₁.Ns s.heap.objs.size fun y => ([] : List (Str × Value)).reverse.lookup y) (kp : ∀ b o, s.heap.get? b = some o → h₁.get? b = some o) :
    Inv (lcx P w W.K mg base N (W.lam k) W.cl f c' A outer s H E) [] (us.map some) H { s with heap := h₁, toks := tk } := by
  have noA : ∀ b : Addr, b ∉ (lcx P w W.K mg base N (W.lam k) W.cl f c' A outer s H E).ex := fun b z => absurd (show b ∈ ([] : List Addr) from z) (by simp)
  have val : ∀ {y : Str}, y ∈ N → ∃ u, W.cvl y = some u := fun {y} hy => by
    obtain ⟨i, hi⟩ := List.getElem?_of_mem hy
    have : i < us.length := by rw [hl]; exact (List.getElem?_eq_some_iff.mp hi).1
    exact ⟨us[i], hv i y _ hi (List.getElem?_eq_getElem this)⟩
  have cm : ∀ {y c}, (cloFrom W.cl (W.lam k).scope.names []).lookup y = some c → W.cl.lookup y = some c ∧ y ∈ N := fun {y c} e => by
    rcases cloFrom_mem (PySem.mem_of_lookup e) with hm | ⟨h1, h2⟩
    · cases hm
    · have hy := S.free _ h1 rfl
      obtain ⟨u, hu⟩ := val hy
      obtain ⟨c1, _, _, hc, _⟩ := B.at_ _ _ hu
      have hc : W.cl.lookup y = some c1 := hc
      have e2 : c = c1 := by
        rw [h2, hc] <;> rfl
      rw [e2]
      exact ⟨hc, hy⟩
  have look : ∀ {y}, (W.lam k).scope.names.lookup y = some .free → ∃ c, (cloFrom W.cl (W.lam k).scope.names []).lookup y = some c := fun {y} hl => by
    have hy : (y, NameKind.free) ∈ (W.lam k).scope.names := PySem.mem_of_lookup hl
    exact mem_lookup (cloFrom_has (cells := W.cl) (acc := []) hy)
  have cell : ∀ {y c}, (cloFrom W.cl (W.lam k).scope.names []).lookup y = some c → ∃ u w, W.cvl y = some u ∧ L2.RelV u w ∧ h₁.IsCell c (some w) ∧ H c = none := fun {y c} e => by
    obtain ⟨e1, hy⟩ := cm e
    obtain ⟨u, hu⟩ := val hy
    obtain ⟨c1, o, w, hc, hb, hdt, r⟩ := B.at_ _ _ hu
    rw [e1] at hc
    cases hc
    exact ⟨u, w, hu, r, ⟨o, kp _ _ (e0.bs _ _ hb).1, hdt⟩, (e0.bs _ _ hb).2⟩
  refine ⟨⟨e0.mod, S.kind, rfl, rfl, Nat.le_refl _, fun y z c e1 e2 => B.inj y z c (cm e1).1 (cm e2).1, fun y hy => ?_, fun y c z _ => ?_, fun _ => hd, Around.frames_deeper e0.frames, .inr ⟨rfl, rfl⟩, fun b z => absurd z (noA b), e0.bs, e0.bsz, fun b _ _ => noA b,
      fun b z => absurd z (noA b), e0.funs, e0.frf⟩,
    rfl, e0.bare, Un.kept kp, ⟨_, hns, fun i y v e1 e2 e3 => ?_⟩, fun y c e => ?_, e0.hok.fresh (Nat.le_refl _), fun y c e => ?_, fun q hq => absurd (show q ∈ ([] : List (Addr × Obj)) ++ [] from hq) (by simp), e0.hok.kept kp, by rw [List.length_map]; exact hl⟩
  · have hy : (W.lam k).scope.names.lookup y = some .cell ∨ (W.lam k).scope.names.lookup y = some .free := hy
    rcases hy with hy | hy
    · exact absurd rfl (S.own _ (PySem.mem_of_lookup hy)).2
    · exact look hy
  · have z : false = true := z
    cases z
  · have e3 : Vis (W.lam k).scope y := e3
    rcases e3 with q | q | q
    · exact absurd rfl (S.own _ (PySem.mem_of_lookup q)).1
    · exact absurd rfl (S.own _ (PySem.mem_of_lookup q)).2
    · obtain ⟨c, hc⟩ := look q
      obtain ⟨u, w, h1, h2, h3, _⟩ := cell hc
      have e2' : us[i]? = some v := by
        rw [List.getElem?_map] at e2
        cases z : us[i]? with
        | none => rw [z] at e2; cases e2
        | some u => rw [z] at e2; cases e2; rfl
      have h4 := hv i y v e1 e2'
      rw [h1] at h4
      cases h4
      exact ⟨w, h2, .inr ⟨.inr q, c, hc, h3⟩⟩
  · obtain ⟨u, w, _, _, h3, _⟩ := cell e
    exact ⟨_, h3⟩
  · obtain ⟨u, w, _, _, _, h4⟩ := cell e
    exact h4
/-- x(): the closure in slot i, by a table -/
def fAct (tab : Nat → Option (List Str × FE)) (i : Nat) : FE := fun env S => match env[i]? with
  | some (some (.lam k)) => match tab k with
    | some p => match S.cv with
      | some vals => match p.1.mapM (fun x => vals.lookup x) with
        | some ds => p.2 (ds.map some) S
        | none => .no
      | none => .no
    | none => .no
  | _ => .no
theorem relEn_map {W : Wd} {H : Hp} {m : Nat → Addr} {n : Nat} {ds : List D} {us : List V} (r : RelDs W H m n ds us) : RelEn W H m n (ds.map some) (us.map some) where
  len := by rw [List.length_map, List.length_map, r.len]
  at_ := fun i d q => by
    rw [List.getElem?_map] at q
    cases q2 : ds[i]? with
    | none => rw [q2] at q; cases q
    | some e =>
      rw [q2] at q
      cases q
      obtain ⟨v, h1, h2⟩ := r.get q2
      exact ⟨v, by rw [List.getElem?_map, h1]; rfl, h2⟩
theorem relD_lamE {W : Wd} {H : Hp} {m : Nat → Addr} {n k : Nat} {v : V} (h : RelD W H m n (.lam k) v) : ∃ f c, v = .ref f ∧ (H f = some (lamO (W.lam k) W.cl f c) ∧ Off m n f) ∧ (H c = some (LamX.CodeO c (W.lam k).qual) ∧ Off m n c) := by unfold RelD at h; exact h
theorem z_act {W : Wd} {X : Cx} {E : St → XK} {tab : Nat → Option (List Str × FE)} {i j : Nat} {a : Str} {p1 p2 : Pos} (hK : X.K = W.K) (hr : RoomG (j + 1) X.A) (B : Lent W X.base) (T : ∀ k p, tab k = some p → LamOk W X.prog X.w X.mg X.base j k p.1 p.2) (pas : ∀ σ, PassesAt (L2.CX X.prog X.w) X σ (E σ))
    (hN : X.N[i]? = some a) (hv : Vis X.env.scope a) (hd : (a == ("__debug__" : Str)) = false) (hcd : (a == ("__classdict__" : Str)) = false) : PE X (.Call (.Name a p1) [] [] p2) (tE W E (fAct tab i)) := by
  refine ⟨fun pins s σ H Q I h => ?_⟩
  obtain ⟨env, m, S, h1, h2, h3⟩ := h
  unfold fAct at h3
  cases q1 : env[i]? with
  | none => rw [q1] at h3; exact h3.elim
  | some od =>
  rw [q1] at h3
  cases od with
  | none => exact h3.elim
  | some d =>
  cases d <;> try exact h3.elim
  rename_i k
  dsimp only at h3
  cases q2 : tab k with
  | none => rw [q2] at h3; exact h3.elim
  | some p =>
  rw [q2] at h3
  dsimp only at h3
  cases q3 : S.cv with
  | none => rw [q3] at h3; exact h3.elim
  | some vals =>
  rw [q3] at h3
  dsimp only at h3
  cases q4 : p.1.mapM (fun x => vals.lookup x) with
  | none => rw [q4] at h3; exact h3.elim
  | some ds =>
  rw [q4] at h3
  dsimp only at h3
  obtain ⟨v, hs, rd⟩ := h1.at_ i _ q1
  obtain ⟨f, c', ev, ⟨hf, _⟩, ⟨hc, _⟩⟩ := relD_lamE rd
  subst ev
  have L := T k p q2
  refine wpAny_Call_Name_kw (thn ((pe_var (pos := p1) (i := i) hN hv hd hcd).run pins s σ H (fun v H1 => v = .ref f ∧ H1 = H) I ⟨.ref f, hs, rfl, rfl⟩) fun u s1 ⟨v, H1, I1, r1, e1⟩ => ?_)
  obtain ⟨ev, eH⟩ := e1
  subst ev
  rw [eH] at I1
  obtain rfl : u = Value.ref f := r1
  obtain ⟨⟨pm, ctv, of1⟩, _, _⟩ := (show ObjOk X.prog X.w H s1.heap f (.ext fun h => ∃ pm ctv, h.get? f = some (PySem.W.kla_obj "<lambda>" (W.lam k).qual (W.lam k).params (W.lam k).body (W.lam k).scope (cloFrom W.cl (W.lam k).scope.names []) pm c' ctv)) from I1.hok f _ hf)
  refine PySem.W.callWith_F0 ⟨_, _, _, _, of1⟩ ?_
  obtain ⟨⟨oc, vs, t, hoc, hdc, hvc⟩, _, _⟩ := (show ObjOk X.prog X.w H s1.heap c' (.ext fun h => ∃ (oc : Obj) (vs : Array Value) (t : Tok), h.get? c' = some oc ∧ oc.data = .fields vs ∧ vs[1]? = some (.str (W.lam k).qual t)) from I1.hok c' _ hc)
  obtain ⟨us, g1, g2, g3⟩ := cellsV B (h2.cells vals q3) q4
  have e0 := I1.env0
  rw [hK] at e0
  have rc : codeAny (model X.prog X.w) X.A (.call (.ref f) ⟨[], []⟩) (CR (L2.CX X.prog X.w) X.stack X.prog X.w H s1 Q (E σ)) s1 := by
    refine PySem.W.kla_callFunE hr.toRoom.depth of1 rfl L.sc.co L.sc.gen rfl ⟨c', oc, vs, t, rfl, hoc, hdc, hvc⟩ ?_
    rw [L.bind]
    refine wpAny_pure (wpAny_newFunctionEnv (fun y hy => (L.sc.own y hy).2) (fun y hy => absurd hy (by simp)) (fun h₁ hns hsb => ⟨I1.nolimit.fresh _ hsb, ?_⟩) L.sc.kind)
    show codeAny _ _ (.expr (W.lam k).body (lenv (W.lam k) W.cl s1.heap.objs.size f c')) _ _
    have kp : ∀ b o, s1.heap.get? b = some o → h₁.get? b = some o := fun b o e => hsb.extBut b o (Nat.ne_of_lt (Heap.lt_size e)) (Heap.get?_push_of_some _ e)
    have J := lam_begin (W := W) (N := p.1) (k := k) (f := f) (c' := c') (E := E σ) (tk := s1.toks + ([] : List (Str × Value)).length) B L.sc L.nd e0 hr.hd g1 g3 hns kp
    refine PySem.W.kla_codeExpr (wpAny_mono ((L.body f c' X.A X.stack s1 H (E σ) (hr.deeper _)).run [] _ _ H Q J ⟨_, m, S, relEn_map g2, h2, h3⟩) (fun v s' hq => ?_) fun e s' hq => hq)
    obtain ⟨w', H', J', rv, q⟩ := hq
    exact ⟨w', H', J'.os, J'.bare, J'.base, J'.hok, rv, q⟩
  refine wpAny_call (codeAny_mono rc fun r s' hq => ?_)
  cases r with
  | error e => exact pas σ pins H s1 e s' I1 hq
  | ok fl =>
    cases fl with
    | ret u => exact I1.after hq
    | next => exact False.elim hq
    | brk => exact False.elim hq
    | cont => exact False.elim hq
end Z
set_option Elab.async false
set_option linter.all false
set_option autoImplicit false
set_option maxRecDepth 100000
set_option maxHeartbeats 2000000
/-! Z28: try: body / except C as n: suite, the caught object tracked. -/
namespace Z
open PySem PySem.Spec PyProof.Rows L2
section
variable {X : Cx} {pins : List (Addr × Obj)} {σ : St} {H : Hp} {sI s' : Shared} {B : Heap}
theorem landT {a : Addr} {o : HO} (I : Inv X pins σ H sI) (nb : ∀ b o, sI.heap.get? b = some o → b ∉ frs X.stack → B.get? b = some o) (st : B.StaysIn s'.heap) (up : sI.heap.UpToSlots s'.heap) (os : s'.os = sI.os) (ag : AllBare s'.gens)
    (ha : sI.heap.get? a = none) (hn : H a = none) (new : ObjOk X.prog X.w (upd H a o) s'.heap a o) : Inv X pins σ (upd H a o) s' := by
  have nf : ∀ b ∈ frs X.stack, ∀ o, sI.heap.get? b = some o → ∃ sl, s'.heap.get? b = some { o with slots := sl } := fun b hb o e => by
    obtain ⟨_, o', e', hd⟩ := I.stack.mem hb
    rw [e] at e'; cases e'
    exact up b o e hd
  have na : ∀ {b : Addr} {o : Obj}, sI.heap.get? b = some o → b ≠ a := fun {b o} e z => by rw [z, ha] at e; cases e
  have nh : ∀ {b : Addr} {o : HO}, H b = some o → b ≠ a := fun {b o} e z => by rw [z, hn] at e; cases e
  refine I.call' (ch := []) os ⟨fun b o e _ hb _ => st b o (nb b o e hb), fun b o e _ hb _ => nf b hb o e, fun b o e n _ => by rw [upd_ne (na e)]; exact n, fun b o e _ => by
      by_cases hb : b ∈ frs X.stack
      · obtain ⟨sl, q⟩ := nf b hb o e
        exact ⟨_, q⟩
      · exact ⟨o, st b o (nb b o e hb)⟩, fun b xs e => by rw [upd_ne (nh e)]; exact e, fun b o v e => by rw [upd_ne (nh e)]; exact e, fun b ps e => ⟨#[], by rw [upd_ne (nh e), e]; simp⟩⟩
    ((I.inGround nb).laidN st hn new) ag (fun _ z => nomatch z)
end
def RS.unset (i : Nat) : RS → RS
  | .ok (.nx env) S => .ok (.nx (env.set i none)) S
  | .ok (.bk env) S => .ok (.bk (env.set i none)) S
  | .ok (.ct env) S => .ok (.ct (env.set i none)) S
  | .ok (.rt d) S => .ok (.rt d) S
  | _ => .no
def gTry (i : Nat) (sub : Nat → Bool) (g1 g2 : En → Sto → RS) : En → Sto → RS := fun env S => match g1 env S with
  | .exc k x env1 S1 => if sub k = true then (g2 (env1.set i (some (.exc k x))) S1).unset i else .no
  | r => r
def unE (i : Nat) (D : Ends) : Ends := { nx := fun σ H => D.nx (σ.set i none) H, rt := D.rt, bk := fun σ H => D.bk (σ.set i none) H, ct := fun σ H => D.ct (σ.set i none) H }
theorem relEn_unset {W : Wd} {H : Hp} {m : Nat → Addr} {n : Nat} {env : En} {σ : St} {i : Nat} (r : RelEn W H m n env σ) : RelEn W H m n (env.set i none) (σ.set i none) := r.unset
theorem unset_post {W : Wd} {E : St → XK} {D : Ends} {H : Hp} {m : Nat → Addr} {n i : Nat} {r : RS} (h : PostS W E D H m n (r.unset i)) : PostS W noE (unE i D) H m n r := by
  cases r with
  | no => exact h
  | exc c v env S => exact h.elim
  | ok f S =>
    cases f with
    | nx env => exact fun H' m' σ' e rs r => h H' m' _ e rs (relEn_unset r)
    | rt d => exact h
    | bk env => exact fun H' m' σ' e rs r => h H' m' _ e rs (relEn_unset r)
    | ct env => exact fun H' m' σ' e rs r => h H' m' _ e rs (relEn_unset r)
section
variable {X : Cx} {W : Wd} {x n : Str} {c : Value} {i : Nat} {body suite : List Stmt} {b₀ : Stmt} {np pos pos' : Pos} {E : St → XK} {g1 g2 : En → Sto → RS} {sub : Nat → Bool}
theorem z_try (hs : X.stack = X.env :: X.outer) (hf : X.env.frame = some X.env.locals) (hN : X.N.Nodup) (hi : X.N[i]? = some n) (hln : X.env.kindOf n = some .local) (hc : Names X x c)
    (hsub : ∀ k, sub k = true → PySem.W.exmOne X.K (.ref (W.ca k)) c = some true)
    (hb : ∀ (E' : St → XK) (pn : List (Addr × Obj)) (xe : Value → Shared → Prop), Takes (X.tr pn xe) (fun cls d σ H => E' σ cls d H) → PassesOwn (model X.prog X.w) X.A X.env xe → PSs (X.tr pn xe) body (tS W E' g1))
    (hsu : ∀ (a : Addr) (pn : List (Addr × Obj)), PSs (X.suite a pn) (b₀ :: suite) (tS W noE g2)) :
    PS X (.Try body [.ExceptHandler (some (.Name x np)) (some n) (b₀ :: suite) pos'] [] [] pos) (tS W E (gTry i sub g1 g2)) := by
  refine ⟨fun pins s σ H D I h => ?_⟩
  obtain ⟨env, m, S, h1, h2, h3⟩ := h
  have ok := I.ok
  have hfr : X.A.frames = some (X.env :: X.outer) := by rw [ok.frames, hs]
  have hloc : Loc X.env.scope n := .inl hln
  let E' : St → XK := fun σ' cls d H' => ∃ k dd, cls = .ref (W.ca k) ∧ sub k = true ∧ d = some dd ∧ (∃ o, H' dd = some o) ∧ ∀ a, H' a = none → a ≠ dd → tS W noE g2 (unE i D) (σ'.set i (some (.ref a))) (upd H' a (exO (W.ca k) a dd))
  have h4 : PostS W E' D H m S.n (g1 env S) := by
    have h3 : PostS W E D H m S.n (match g1 env S with
      | .exc k x env1 S1 => if sub k = true then (g2 (env1.set i (some (.exc k x))) S1).unset i else .no
      | r => r) := h3
    cases q : g1 env S with
    | no => rw [q] at h3; exact h3
    | ok f S1 => rw [q] at h3; cases f <;> exact h3
    | exc k x env1 S1 =>
      rw [q] at h3
      dsimp only at h3
      by_cases hk : sub k = true
      · rw [if_pos hk] at h3
        refine fun H' m' σ' d u ext rs ren hd off rd => ⟨k, d, rfl, hk, rfl, ⟨_, hd⟩, fun a ha hne => ?_⟩
        have ea : Ext W H' m' S1.n (upd H' a (exO (W.ca k) a d)) m' S1.n := ext_upd ha
        refine ⟨env1.set i (some (.exc k x)), m', S1, RelEn.set (RelEn.ext ea ren) ?_, rs.upd ha, unset_post (PostS.ext (ext.trans ea) h3)⟩
        unfold RelD
        exact ⟨a, d, u, rfl, ⟨upd_same, rs.off ha⟩, ⟨by rw [upd_ne (Ne.symm hne)]; exact hd, off⟩, RelD.ext ea _ _ rd⟩
      · rw [if_neg hk] at h3
        exact h3.elim
  refine wpAny_Try_except ?_
  refine wpAny_mono ((hb E' (X.pn ++ pins) (fun e s₁ => wpAny (model X.prog X.w) X.A (noteFrame e X.env) (fun _ s₂ => wpAny (model X.prog X.w) X.A (setFlight e none) (fun _ s₃ =>
    wpAny (model X.prog X.w) X.A (handleBy e X.env [.ExceptHandler (some (.Name x np)) (some n) (b₀ :: suite) pos']) (SP X pins D) X.xe s₃) X.xe s₂) X.xe s₁) (fun u s' xx => ?_) PassesOwn.looking).run [] s σ H D (I.toTry _) ⟨env, m, S, h1, h2, h4⟩) (fun f s1 hsp => ?_) (fun e s1 he => he)
  · obtain ⟨a, B, sI, pins', σ', H', cls, d, rfl, J', nb, up, sky, na, os, ag, k, dd, rfl, hk, rfl, ⟨odd, hdd⟩, hq⟩ := xx
    have J : Inv X pins σ' H' sI := J'.ofTry ok
    have sky' : Sky B (X.env :: X.outer) a (Zc (.ref (W.ca k)) (some dd)) X.env.locals s'.heap := by rw [← hs]; exact sky
    show wpAny (model X.prog X.w) X.A (noteFrame (.ref a) X.env) _ _ _
    refine Sky.land Zc.steady hfr hf sky' fun h3 fl3 up3 => ?_
    have J3 : Inv X pins σ' H' { s' with heap := h3 } := J.landed nb fl3.1 (up.trans up3) os ag
    obtain ⟨oe3, vs3, he3, hz3, hd3⟩ := fl3.there
    have notFr : ∀ {h : Heap} {o : Obj} {vs : Array Value}, h.FunFrames B (X.env :: X.outer) → h.get? a = some o → o.data = .fields vs → a ∉ frs (X.env :: X.outer) := fun {h o vs} ff e dd hm => by
      obtain ⟨_, o', e', hnf⟩ := ff.mem hm
      rw [e] at e'; cases e'
      exact hnf _ dd
    have nfr := notFr fl3.2.2.1 he3 hd3
    have nL : a ≠ X.env.locals := fun z => nfr (List.mem_filterMap.mpr ⟨X.env, List.mem_cons_self, by rw [hf, z]⟩)
    have nF : a ∉ X.fs := fun hm => by
      obtain ⟨e, he, q⟩ := List.mem_filterMap.mp hm
      exact nfr (List.mem_filterMap.mpr ⟨e, List.mem_cons_of_mem _ he, q⟩)
    have S3 := J3.suite he3 hd3 na nL nF
    refine wpAny_handleBy_cons (codeAny_handlers_test ?_) (by intro q; cases q)
    have LT : PySem.W.Looks (model X.prog X.w) h3 (typeOf (.ref a)) (.ref (W.ca k)) := fun A Q E s k q => wpAny_typeOf_ref (k _ _ he3) (by rw [hz3.1]; exact q)
    have LM := PySem.W.exm_one (M := model X.prog X.w) (J3.kIn) LT (hsub k hk)
    have test : ∀ {Q : Value → Shared → Prop} {E : Value → Shared → Prop}, Q c { s' with heap := h3 } → wpAny (model X.prog X.w) (X.A.mark (some (.ref a))) (eval (.Name x np) X.env) Q E { s' with heap := h3 } := fun {Q E} q => by
      obtain ⟨hg, hdbg, hm | ⟨hm, hv, hnn⟩⟩ := hc
      · exact ld_glob (X := X.suite a ((a, oe3) :: (X.pn ++ pins))) S3 hg hm q hdbg
      · exact ld_blt (X := X.suite a ((a, oe3) :: (X.pn ++ pins))) S3 hg hm hv q hnn hdbg
    refine test (LM.here ?_)
    refine codeAny_handlers_suite_as ?_
    refine HandSPX.lands_againZ fl3 fun h4 fl4 up4 => ?_
    obtain ⟨oe4, vs4, he4, hz4, hd4⟩ := fl4.there
    have sIn : sI.heap.get? a = none := by
      cases z : sI.heap.get? a with
      | none => rfl
      | some o =>
        have nfa : a ∉ frs X.stack := by rw [hs]; exact nfr
        have q := nb a o z nfa
        rw [fl4.2.1] at q
        cases q
    have J4 : Inv X pins σ' (upd H' a (exO (W.ca k) a dd)) { s' with heap := h4 } := landT J nb fl4.1 ((up.trans up3).trans up4) os ag sIn na ⟨⟨oe4, vs4, he4, hz4, hd4⟩, ⟨_, he4⟩, fun h1 h2 z kk => by
      obtain ⟨o, v, q, r⟩ := z
      exact ⟨o, v, kk _ q, r⟩⟩
    have S4 : Inv (X.suite a (X.pn ++ pins)) [] σ' (upd H' a (exO (W.ca k) a dd)) { s' with heap := h4 } := ⟨J4.ok.suite _ _, J4.os, J4.bare, J4.base, J4.loc, J4.cell, J4.free, J4.freeC, fun p hp => J4.pin p (by rw [List.append_nil] at hp; exact hp), J4.hok, J4.len⟩
    have unS : ∀ {pn' : List (Addr × Obj)} {σ6 : St} {H6 : Hp} {s6 : Shared}, Inv (X.suite a (X.pn ++ pins)) pn' σ6 H6 s6 → Inv X pins σ6 H6 s6 := fun {pn' σ6 H6 s6} I => ⟨ok, I.os, I.bare, I.base, I.loc, I.cell, I.free, I.freeC, fun p hp => I.pin p (List.mem_append_left _ hp), I.hok, I.len⟩
    have hne : a ≠ dd := fun z => by
      rw [← z, na] at hdd
      cases hdd
    refine store_ok (X := X.suite a (X.pn ++ pins)) (v := .ref a) S4 hN hi hloc rfl (fun s5 S5 => ?_) (.inr hln)
    refine wpAny_mono ((hsu a (X.pn ++ pins)).run [] s5 _ _ _ S5 (hq a na hne)) (fun f s6 hsp => ?_) (fun _ _ z => False.elim z)
    have end_ : ∀ {σ6 : St} {H6 : Hp} {Q : Shared → Prop}, Inv (X.suite a (X.pn ++ pins)) [] σ6 H6 s6 → (∀ s7, Inv X pins (σ6.set i none) H6 s7 → Q s7) →
        wpAny (model X.prog X.w) X.A (do bindName X.env n .none; unbindBehindTheSuite X.env n pos') (fun _ s7 => Q s7) X.xe s6 := fun {σ6 H6 Q} S6 hq => gone_ok (unS S6) hN hi hln hq
    cases f with
    | next =>
      obtain ⟨σ6, H6, S6, q6⟩ := hsp
      exact end_ S6 fun s7 J7 => ⟨_, _, J7, q6⟩
    | brk =>
      obtain ⟨σ6, H6, S6, q6⟩ := hsp
      exact end_ S6 fun s7 J7 => ⟨_, _, J7, q6⟩
    | cont =>
      obtain ⟨σ6, H6, S6, q6⟩ := hsp
      exact end_ S6 fun s7 J7 => ⟨_, _, J7, q6⟩
    | ret u =>
      obtain ⟨v6, σ6, H6, S6, r6, q6⟩ := hsp
      exact end_ S6 fun s7 J7 => ⟨_, _, _, J7, r6, q6⟩
  · cases f with
    | next =>
      obtain ⟨σ', H', J', q⟩ := hsp
      exact wpAny_execs_nil ⟨σ', H', J'.ofTry ok, q⟩
    | brk =>
      obtain ⟨σ', H', J', q⟩ := hsp
      exact ⟨σ', H', J'.ofTry ok, q⟩
    | cont =>
      obtain ⟨σ', H', J', q⟩ := hsp
      exact ⟨σ', H', J'.ofTry ok, q⟩
    | ret u =>
      obtain ⟨v, σ', H', J', r, q⟩ := hsp
      exact ⟨v, σ', H', J'.ofTry ok, r, q⟩
end
end Z
set_option Elab.async false
set_option linter.all false
set_option autoImplicit false
set_option maxRecDepth 100000
set_option maxHeartbeats 2000000
/-! Z29: try, closures, classes of exceptions: side conditions closed. -/
namespace Z
open PySem PySem.Spec PyProof.Rows L2

/-- isinstance against an own class without sub-classes -/
def subX (n j : Nat) (k : Nat) : Option Bool := if k < n then some (k == j) else none
def ansO : String → Option Bool := fun A => if A = "NoneType" then some false else none
section
variable {W : Wd} {X : Cx} {j : Nat} [C : Ctx W X j] {E : St → XK} {pos p p1 p2 p3 np pos' : Pos} {e b c : Expr} {es : List Expr} {fa : FE} {fs : List FE} {g1 g2 : En → Sto → RS}
include C
theorem w_isO {x : Str} (n k : Nat) {a : Addr} (K : IsK W (.ref a) (.ref a) ansO (subX n k)) (hx : X.mg x = some (.ref a)) (ha : PE X e (tE W E fa)) (hg : Gl X "isinstance" := by rfl) (hg2 : Gl X x := by rfl)
    (hs : starEach [e, .Name x p2] X.env = (false, eval e X.env) :: starEach [.Name x p2] X.env := by rfl) (hs2 : starEach [.Name x p2] X.env = (false, eval (.Name x p2) X.env) :: starEach [] X.env := by rfl) (hpl : (backTo pos (starEach [.Name x p2] X.env)).any (·.1) = false := by rfl) (hd : (x == ("__debug__" : Str)) = false := by decide) :
    PE X (.Call (.Name "isinstance" p) [e, .Name x p2] [] pos) (tE W E (fIsi ansO (subX n k) fa)) :=
  z_isi C.hK K hg (C.fr _ (by decide)) ha (pe_glob hg2 hx rfl hd) hs hs2 hpl
theorem w_value (hC : ∀ k, XC W.K (W.ca k)) (he : PE X e (tE W E fa)) (hb : attributeBase e "value" X.env (eval e X.env) = eval e X.env := by rfl) : PE X (.Attribute e "value" pos) (tE W E (fVal fa)) := z_value C.hK hC he hb
theorem w_act {tab : Nat → Option (List Str × FE)} (i : Nat) {k : Nat} {a : Str} [P : Pas X E] (hj : k + 1 ≤ j) (B : Lent W X.base) (T : ∀ l p, tab l = some p → LamOk W X.prog X.w X.mg X.base k l p.1 p.2)
    (hN : X.N[i]? = some a := by rfl) (hv : Vis X.env.scope a := by first | exact Or.inl rfl | exact Or.inr (Or.inl rfl) | exact Or.inr (Or.inr rfl)) (hd : (a == ("__debug__" : Str)) = false := by decide) (hcd : (a == ("__classdict__" : Str)) = false := by decide) :
    PE X (.Call (.Name a p1) [] [] p2) (tE W E (fAct tab i)) := z_act C.hK (C.hr.mono hj) B T P.p hN hv hd hcd
theorem w_try {x n : Str} {c : Value} (i : Nat) {body suite : List Stmt} {b₀ : Stmt} {sub : Nat → Bool} (hm : X.mg x = some c) (hsub : ∀ k, sub k = true → PySem.W.exmOne W.K (.ref (W.ca k)) c = some true)
    (hb : ∀ (E' : St → XK) (pn : List (Addr × Obj)) (xe : Value → Shared → Prop) [Pas (X.tr pn xe) E'] [Own (X.tr pn xe)], PSs (X.tr pn xe) body (tS W E' g1))
    (hsu : ∀ (a : Addr) (pn : List (Addr × Obj)), PSs (X.suite a pn) (b₀ :: suite) (tS W noE g2))
    (hs : X.stack = X.env :: X.outer := by rfl) (hf : X.env.frame = some X.env.locals := by rfl) (hN : X.N.Nodup := by exact of_decide_eq_true (by kernel_rfl)) (hi : X.N[i]? = some n := by rfl) (hln : X.env.kindOf n = some .local := by rfl)
    (hg : Gl X x := by rfl) (hd : (x == ("__debug__" : Str)) = false := by decide) :
    PS X (.Try body [.ExceptHandler (some (.Name x np)) (some n) (b₀ :: suite) pos'] [] [] pos) (tS W E (gTry i sub g1 g2)) :=
  z_try hs hf hN hi hln ⟨hg, hd, .inl hm⟩ (fun k h => by rw [C.hK]; exact hsub k h)
    (fun E' pn xe tk po => @hb E' pn xe ⟨fun σ => passAt tk σ⟩ ⟨po⟩) hsu
end
theorem w_ret0 {W : Wd} {X : Cx} {E : St → XK} {e : Expr} {pos : Pos} {fa : FE} (he : PE X e (tE W E fa)) : PS X (.Return (some e) pos) (tS W E (gRet fa)) := z_ret he
theorem w_var0 {W : Wd} {X : Cx} {E : St → XK} {pos : Pos} (i : Nat) {x : Str} (hN : X.N[i]? = some x := by rfl) (hv : Vis X.env.scope x := by first | exact Or.inl rfl | exact Or.inr (Or.inl rfl) | exact Or.inr (Or.inr rfl)) (hd : (x == ("__debug__" : Str)) = false := by decide) (hcd : (x == ("__classdict__" : Str)) = false := by decide) :
    PE X (.Name x pos) (tE W E (fVar i)) := z_var hN hv hd hcd
instance {P : Program} {w : World} {K : PySem.W.Frag} {mg : Str → Option Value} {base : Heap} {N : List Str} {L : LamD} {cl : List (Str × Addr)} {f c' : Addr} {A : Around} {outer : List Env} {s : Shared} {H : Hp} {E : XK} :
    Pas (lcx P w K mg base N L cl f c' A outer s H E) (fun _ => E) := ⟨fun σ => passAt (W := fun cls d _ H => E cls d H) (takes_of rfl rfl rfl rfl) σ⟩
end Z
set_option Elab.async false
set_option linter.all false
set_option autoImplicit false
set_option maxRecDepth 100000
set_option maxHeartbeats 2000000
/-! Z30: from one setting to another: fewer places, other cells. -/
namespace Z
open PySem PySem.Spec PyProof.Rows L2

mutual
def okD (lo : Bool) (n : Nat) : D → Bool
  | .loc k => decide (k < n)
  | .lam _ => lo
  | .tup xs => okDs lo n xs
  | .ktp xs => okDs lo n xs
  | .sq xs => okDs lo n xs
  | .exc _ v => okD lo n v
  | _ => true
def okDs (lo : Bool) (n : Nat) : List D → Bool
  | [] => true
  | d :: ds => okD lo n d && okDs lo n ds
end
def okKv {κ : Type} (lo : Bool) (n : Nat) (ps : List (κ × D)) : Bool := ps.all fun p => okD lo n p.2
def okO (lo : Bool) (n : Nat) : Ob → Bool
  | .lst ds => okDs lo n ds
  | .dk ps => okKv lo n ps
  | .dt ps => okKv lo n ps
  | .fz o => okO lo n o
  | .ins _ ps => okKv lo n ps
  | .hid => true
structure To (W W2 : Wd) (lo : Bool) : Prop where
  K : W2.K = W.K
  ca : W2.ca = W.ca
  T : W2.T = W.T
  lam : lo = true → W2.lam = W.lam ∧ W2.cl = W.cl
section
variable {W W2 : Wd} {lo : Bool} {H : Hp} {m : Nat → Addr} {n n' : Nat}
theorem Off.le {a : Addr} (h : Off m n a) (hn : n' ≤ n) : Off m n' a := fun k hk => h k (Nat.lt_of_lt_of_le hk hn)
mutual
theorem relD_to (t : To W W2 lo) (hn : n' ≤ n) : ∀ (d : D) (v : V), okD lo n' d = true → RelD W H m n d v → RelD W2 H m n' d v
  | .non, v, _, h => by unfold RelD at h ⊢; exact h
  | .bl b, v, _, h => by unfold RelD at h ⊢; exact h
  | .int i, v, _, h => by unfold RelD at h ⊢; exact h
  | .str x, v, _, h => by unfold RelD at h ⊢; exact h
  | .tup ds, v, o, h => by
    unfold RelD at h ⊢
    unfold okD at o
    obtain ⟨a, vs, e1, ⟨t1, t2⟩, r⟩ := h
    exact ⟨a, vs, e1, ⟨t1, t2.le hn⟩, relDs_to t hn ds vs o r⟩
  | .ktp ds, v, o, h => by
    unfold RelD at h ⊢
    unfold okD at o
    obtain ⟨a, vs, e1, q, r⟩ := h
    exact ⟨a, vs, e1, by rw [t.K]; exact q, relDs_to t hn ds vs o r⟩
  | .loc k, v, o, h => by
    unfold RelD at h ⊢
    unfold okD at o
    exact ⟨of_decide_eq_true o, h.2⟩
  | .exc c x, v, o, h => by
    unfold RelD at h ⊢
    unfold okD at o
    obtain ⟨a, d, u, e1, ⟨h1, h2⟩, ⟨h3, h4⟩, r⟩ := h
    exact ⟨a, d, u, e1, ⟨by rw [t.ca]; exact h1, h2.le hn⟩, ⟨h3, h4.le hn⟩, relD_to t hn x u o r⟩
  | .sq ds, v, o, h => by
    unfold RelD at h ⊢
    unfold okD at o
    obtain ⟨a, vs, e1, q, r⟩ := h
    refine ⟨a, vs, e1, ?_, relDs_to t hn ds vs o r⟩
    rcases q with ⟨q, f⟩ | q
    · exact .inl ⟨q, f.le hn⟩
    · rw [← t.K] at q
      exact .inr q
  | .lam k, v, o, h => by
    unfold RelD at h ⊢
    unfold okD at o
    obtain ⟨e1, e2⟩ := t.lam o
    obtain ⟨f, c, e3, ⟨h1, h2⟩, ⟨h3, h4⟩⟩ := h
    rw [e1, e2]
    exact ⟨f, c, e3, ⟨h1, h2.le hn⟩, ⟨h3, h4.le hn⟩⟩
theorem relDs_to (t : To W W2 lo) (hn : n' ≤ n) : ∀ (ds : List D) (vs : List V), okDs lo n' ds = true → RelDs W H m n ds vs → RelDs W2 H m n' ds vs
  | [], vs, _, h => by unfold RelDs at h ⊢; exact h
  | d :: ds, vs, o, h => by
    unfold RelDs at h ⊢
    unfold okDs at o
    rw [Bool.and_eq_true] at o
    obtain ⟨u, us, e1, r, rs⟩ := h
    exact ⟨u, us, e1, relD_to t hn d u o.1 r, relDs_to t hn ds us o.2 rs⟩
end
theorem kvR_to {κ : Type} (t : To W W2 lo) (hn : n' ≤ n) : ∀ (ps : List (κ × D)) (vs : List (κ × V)), okKv lo n' ps = true → KvR W H m n ps vs → KvR W2 H m n' ps vs
  | [], vs, _, h => h
  | p :: ps, vs, o, h => by
    unfold okKv at o
    rw [List.all_cons, Bool.and_eq_true] at o
    obtain ⟨u, us, e1, r, rs⟩ := h
    exact ⟨u, us, e1, relD_to t hn _ _ o.1 r, kvR_to t hn ps us o.2 rs⟩
theorem obR_to (t : To W W2 lo) (hn : n' ≤ n) : ∀ (o : Ob) (ho : HO), okO lo n' o = true → ObR W H m n o ho → ObR W2 H m n' o ho
  | .lst ds, _, q, ⟨vs, e1, r⟩ => ⟨vs, e1, relDs_to t hn ds vs q r⟩
  | .dk kvs, _, q, ⟨vs, e1, r⟩ => ⟨vs, e1, kvR_to t hn kvs vs q r⟩
  | .dt kvs, _, q, ⟨vs, e1, r⟩ => ⟨vs, e1, kvR_to t hn kvs vs q r⟩
  | .fz b, _, q, ⟨od, u, e1, r⟩ => ⟨od, u, e1, obR_to t hn b u q r⟩
  | .ins c fs, _, q, ⟨dx, vs, e1, r⟩ => ⟨dx, vs, by rw [t.ca]; exact e1, kvR_to t hn fs vs q r⟩
  | .hid, _, _, h => h
/-! what is related is in its bounds -/
mutual
theorem relD_okd : ∀ (d : D) (v : V), RelD W H m n d v → okD true n d = true
  | .non, v, _ => rfl
  | .bl b, v, _ => rfl
  | .int i, v, _ => rfl
  | .str x, v, _ => rfl
  | .tup ds, v, h => by
    unfold RelD at h
    unfold okD
    obtain ⟨a, vs, _, _, r⟩ := h
    exact relDs_okd ds vs r
  | .ktp ds, v, h => by
    unfold RelD at h
    unfold okD
    obtain ⟨a, vs, _, _, r⟩ := h
    exact relDs_okd ds vs r
  | .loc k, v, h => by
    unfold RelD at h
    unfold okD
    exact decide_eq_true h.1
  | .exc c x, v, h => by
    unfold RelD at h
    unfold okD
    obtain ⟨a, d, u, _, _, _, r⟩ := h
    exact relD_okd x u r
  | .sq ds, v, h => by
    unfold RelD at h
    unfold okD
    obtain ⟨a, vs, _, _, r⟩ := h
    exact relDs_okd ds vs r
  | .lam k, v, _ => rfl
theorem relDs_okd : ∀ (ds : List D) (vs : List V), RelDs W H m n ds vs → okDs true n ds = true
  | [], _, _ => rfl
  | d :: ds, vs, h => by
    unfold RelDs at h
    unfold okDs
    obtain ⟨u, us, _, r, rs⟩ := h
    rw [relD_okd d u r, relDs_okd ds us rs]
    rfl
end
theorem kvR_okd {κ : Type} : ∀ (ps : List (κ × D)) (vs : List (κ × V)), KvR W H m n ps vs → okKv true n ps = true
  | [], _, _ => rfl
  | p :: ps, vs, h => by
    obtain ⟨u, us, _, r, rs⟩ := h
    unfold okKv
    rw [List.all_cons, relD_okd _ _ r, Bool.true_and]
    exact kvR_okd ps us rs
theorem obR_okd : ∀ (o : Ob) (ho : HO), ObR W H m n o ho → okO true n o = true
  | .lst ds, _, ⟨vs, _, r⟩ => relDs_okd ds vs r
  | .dk kvs, _, ⟨vs, _, r⟩ => kvR_okd kvs vs r
  | .dt kvs, _, ⟨vs, _, r⟩ => kvR_okd kvs vs r
  | .fz b, _, ⟨od, u, _, r⟩ => obR_okd b u r
  | .ins c fs, _, ⟨dx, vs, _, r⟩ => kvR_okd fs vs r
  | .hid, _, _ => rfl
/-! the whole store -/
theorem relS_swap {S : Sto} {cv : Option (List (Str × D))} (t : To W W2 true) (r : RelS W H m S) (hc : ∀ vals, cv = some vals → ∀ p ∈ vals, ∃ u, W2.cvl p.1 = some u ∧ RelD W2 H m S.n p.2 u) : RelS W2 H m ⟨S.n, S.l, cv⟩ where
  inj := r.inj
  at_ := fun k hk => by
    obtain ⟨o, ho, g, hm, q⟩ := r.at_ k hk
    exact ⟨o, ho, g, hm, obR_to t (Nat.le_refl _) _ _ (obR_okd _ _ q) q⟩
  tabs := by rw [t.T]; exact r.tabs
  cells := hc
def Sto.cut (S : Sto) (n : Nat) : Sto := ⟨n, S.l.drop (S.n - n), none⟩
theorem get_cut {S : Sto} {n k : Nat} (hn : n ≤ S.n) (hk : k < n) : (S.cut n).get k = S.get k := by
  unfold Sto.get Sto.cut
  dsimp only
  rw [if_pos hk, if_pos (by omega), List.getElem?_drop, show S.n - n + (n - 1 - k) = S.n - 1 - k by omega]
/-- the first n places stand by themselves -/
def okS (lo : Bool) (n : Nat) (S : Sto) : Bool := decide (n ≤ S.n) && (S.l.drop (S.n - n)).all (okO lo n)
theorem relS_cut {S : Sto} {n : Nat} (t : To W W2 lo) (r : RelS W H m S) (ok : okS lo n S = true) : RelS W2 H m (S.cut n) := by
  unfold okS at ok
  rw [Bool.and_eq_true] at ok
  have hn : n ≤ S.n := of_decide_eq_true ok.1
  refine ⟨fun j k hj hk => r.inj j k (Nat.lt_of_lt_of_le hj hn) (Nat.lt_of_lt_of_le hk hn), fun k hk => ?_, by rw [t.T]; exact r.tabs, fun vals e => by cases e⟩
  have hk : k < n := hk
  obtain ⟨o, ho, g, hm, q⟩ := r.at_ k (Nat.lt_of_lt_of_le hk hn)
  refine ⟨o, ho, (get_cut hn hk).trans g, hm, obR_to t hn _ _ ?_ q⟩
  have z := (get_cut hn hk).trans g
  unfold Sto.get Sto.cut at z
  dsimp only at z
  rw [if_pos hk] at z
  exact List.all_eq_true.mp ok.2 o (List.mem_of_getElem? z)
end
end Z
set_option Elab.async false
set_option linter.all false
set_option autoImplicit false
set_option maxRecDepth 100000
set_option maxHeartbeats 2000000
/-! Z31: a def called from the maker's block, the maker's cells lent. -/
namespace Z
open PySem PySem.Spec PyProof.Rows L2

/-- the heap at some addresses alone, as long as it is -/
theorem cutHeap (h : Heap) (p : Addr → Bool) : ∃ G : Heap, G.objs.size = h.objs.size ∧ (∀ b o, G.get? b = some o → h.get? b = some o ∧ p b = true) ∧ ∀ b o, h.get? b = some o → p b = true → G.get? b = some o := by
  refine ⟨PySem.W.hideAll h ((List.range h.objs.size).filter fun b => !p b), PySem.W.hideAll_size _ _, fun b o e => ?_, fun b o e hp => PySem.W.hideAll_get _ e fun hm => ?_⟩
  · have z := PySem.W.of_hideAll _ e
    refine ⟨z, ?_⟩
    cases q : p b with
    | true => rfl
    | false =>
      have hm : b ∈ (List.range h.objs.size).filter fun b => !p b := List.mem_filter.mpr ⟨List.mem_range.mpr (Heap.lt_size z), by rw [q]; rfl⟩
      rw [PySem.W.hideAll_none _ hm] at e
      cases e
  · have z := (List.mem_filter.mp hm).2
    rw [hp] at z
    cases z
/-- the maker's cells, as they stand where the block X starts -/
structure LentX (X : Cx) (cl : List (Str × Addr)) (vs : List (Str × V)) : Prop where
  inj : ∀ x y c, cl.lookup x = some c → cl.lookup y = some c → x = y
  at_ : ∀ p ∈ vs, ∃ c o w, cl.lookup p.1 = some c ∧ X.s_0.heap.get? c = some o ∧ o.data = .cell (some w) ∧ L2.RelV p.2 w ∧ X.H_0 c = none ∧ c ∉ X.fs ∧ c ∉ X.ex ∧ c ∉ frs X.stack
def cvOf (vs : List (Str × V)) : Str → Option V := fun x => vs.lookup x
/-- a base with the cells -/
theorem lentBase {X : Cx} {pins : List (Addr × Obj)} {σ : St} {H : Hp} {s : Shared} {W : Wd} {vs : List (Str × V)} (I : Inv X pins σ H s) (L : LentX X W.cl vs) :
    ∃ base, Env0 X.prog X.w X.K X.mg base X.A X.stack s H ∧ Lent { W with cvl := cvOf vs } base := by
  have cellAt : ∀ p ∈ vs, ∃ c o w, W.cl.lookup p.1 = some c ∧ s.heap.get? c = some o ∧ o.data = .cell (some w) ∧ L2.RelV p.2 w ∧ H c = none ∧ c ∉ frs X.stack := fun p hp => by
    obtain ⟨c, o, w, h1, h2, h3, h4, h5, h6, h7, h8⟩ := L.at_ p hp
    exact ⟨c, o, w, h1, I.base.keep c o h2 h5 h6 h7, h3, h4, I.base.free c o h2 h5 h7, h8⟩
  obtain ⟨G, g1, g2, g3⟩ := cutHeap s.heap fun b => (X.base.get? b).isSome || vs.any fun p => W.cl.lookup p.1 == some b
  have kb : ∀ b o, X.base.get? b = some o → G.get? b = some o := fun b o e => g3 b o (I.bk b o e) (by rw [e]; rfl)
  have e0 := I.env0
  have inG : ∀ b o, G.get? b = some o → s.heap.get? b = some o ∧ H b = none ∧ b ∉ frs X.stack := fun b o e => by
    obtain ⟨h1, h2⟩ := g2 b o e
    refine ⟨h1, ?_⟩
    rw [Bool.or_eq_true] at h2
    rcases h2 with h2 | h2
    · cases q : X.base.get? b with
      | none => rw [q] at h2; cases h2
      | some u =>
        refine ⟨(I.bs b u q).2, fun hm => ?_⟩
        have z := (e0.funs.mem hm).1
        rw [q] at z
        cases z
    · obtain ⟨p, hp, h3⟩ := List.any_eq_true.mp h2
      obtain ⟨c, o', w, h4, h5, h6, h7, h8, h9⟩ := cellAt p hp
      have h3 := eq_of_beq h3
      rw [h4] at h3
      cases h3
      exact ⟨h8, h9⟩
  refine ⟨G, ⟨e0.frames, ⟨e0.mod.kin.keeps kb, e0.mod.glob.keeps kb, ?_, e0.mod.nolimit.keeps kb⟩, fun b o e => ⟨(inG b o e).1, (inG b o e).2.1⟩, Nat.le_of_eq g1, funFrames_none e0.funs fun b hb => ?_, e0.frf, e0.hok, e0.bare⟩, ⟨L.inj, fun x u hx => ?_⟩⟩
  · obtain ⟨mb, h1, h2⟩ := e0.mod.blt
    exact ⟨mb, h1.keeps kb, h2⟩
  · cases q : G.get? b with
    | none => rfl
    | some o => exact absurd hb (inG b o q).2.2
  · have hx : vs.lookup x = some u := hx
    obtain ⟨c, o, w, h4, h5, h6, h7, h8, h9⟩ := cellAt (x, u) (PySem.mem_of_lookup hx)
    refine ⟨c, o, w, h4, g3 c o h5 ?_, h6, h7⟩
    rw [Bool.or_eq_true]
    exact .inr (List.any_eq_true.mpr ⟨_, PySem.mem_of_lookup hx, by rw [show W.cl.lookup (x, u).1 = some c from h4]; exact beq_self_eq_true _⟩)
def valsOf (names : List (Str × Nat)) (env : En) : Option (List (Str × D)) := names.mapM fun p => match env[p.2]? with
  | some (some d) => some (p.1, d)
  | _ => none
def R.uncv (r : R D) : R D := match r with
  | .ok d S => .ok d ⟨S.n, S.l, none⟩
  | _ => .no
def lendG (k : Nat) (names : List (Str × Nat)) (F : Fn) (env : En) (ds : List D) (S1 : Sto) : R D := if ds.length = k then match valsOf names env with
  | some vals => (F ds ⟨S1.n, S1.l, some vals⟩).uncv
  | none => .no else .no
def fLend (k : Nat) (names : List (Str × Nat)) (F : Fn) (fs : En → Sto → R (List D)) : FE := fun env S => (fs env S).bind (lendG k names F env)
theorem valsOf_ok {W : Wd} {H : Hp} {m : Nat → Addr} {n : Nat} {env : En} {σ : St} (r : RelEn W H m n env σ) : ∀ {names : List (Str × Nat)} {vals : List (Str × D)}, valsOf names env = some vals → ∀ p ∈ vals, ∃ i v, (p.1, i) ∈ names ∧ σ[i]? = some (some v) ∧ RelD W H m n p.2 v
  | [], vals, e, p, hp => by
    unfold valsOf at e
    rw [List.mapM_nil] at e
    cases e
    cases hp
  | q :: names, vals, e, p, hp => by
    unfold valsOf at e
    rw [List.mapM_cons] at e
    cases q1 : env[q.2]? with
    | none => rw [q1] at e; cases e
    | some od =>
      rw [q1] at e
      cases od with
      | none => cases e
      | some d =>
        cases q2 : valsOf names env with
        | none =>
          unfold valsOf at q2
          dsimp only at e
          rw [Option.bind_eq_bind, Option.bind_some, q2] at e
          cases e
        | some vals2 =>
          have q3 := q2
          unfold valsOf at q3
          dsimp only at e
          rw [Option.bind_eq_bind, Option.bind_some, q3] at e
          cases e
          rcases List.mem_cons.mp hp with z | z
          · subst z
            obtain ⟨v, h1, h2⟩ := r.at_ _ _ q1
            exact ⟨q.2, v, List.mem_cons_self .., h1, h2⟩
          · obtain ⟨i, v, h1, h2, h3⟩ := valsOf_ok r q2 p z
            exact ⟨i, v, List.mem_cons_of_mem _ h1, h2, h3⟩
theorem Ext.to {W W2 : Wd} {H H' : Hp} {m m' : Nat → Addr} {n n' : Nat} (e : Ext W H m n H' m' n') : Ext W2 H m n H' m' n' := ⟨⟨e.le, e.same, e.keep, e.fresh, e.dom⟩, e.frz⟩
theorem z_lent {X : Cx} {W : Wd} {x : Str} {i k : Nat} {F : Fn} {names : List (Str × Nat)} {vs : List (Str × V)} {f : Addr} {e : Expr} {es : List Expr} {fs : List FE} {p pos : Pos} (hK : X.K = W.K) (hr : RoomG i X.A) (hm : X.mg x = some (.ref f)) (kp : PySem.W.keepIn X.K (.ref f) = true) (L : LentX X W.cl vs)
    (D : ∀ base, Lent { W with cvl := cvOf vs } base → Def { W with cvl := cvOf vs } X.prog X.w X.mg base i x k F)
    (hg : Gl X x) (ha : PA X (e :: es) (tA W noE (fArgs fs))) (hdb : (x == ("__debug__" : Str)) = false)
    (he : starEach (e :: es) X.env = (false, eval e X.env) :: starEach es X.env) (hpl : (backTo pos (starEach es X.env)).any (·.1) = false) :
    PE X (.Call (.Name x p) (e :: es) [] pos) (fun σ H Q => (∀ p ∈ names, ∀ v, σ[p.2]? = some (some v) → vs.lookup p.1 = some v) ∧ tE W noE (fLend k names F (fArgs fs)) σ H Q) := by
  refine ⟨fun pins s σ H Q I h => ?_⟩
  obtain ⟨hl, h⟩ := h
  have h := (tG.seq (rl := RelDs W) (g := lendG k names F) h)
  refine wpAny_Call_Name_kw (ld_glob I hg hm ?_ hdb)
  refine PySem.W.callWith_K (h₀ := X.base) I.ok.mod.kin kp (thn (ha.run pos pins s σ H _ I h) fun us s1 ⟨vs', H1, I1, r1, q1⟩ => ⟨I1.kIn, ?_⟩) he hpl
  show wpAny _ _ (call (.ref f) us) _ _ _
  obtain ⟨env1, m1, S1, ds, k1, k2, k3, k4⟩ := q1
  unfold lendG at k4
  by_cases hk : ds.length = k
  case neg =>
    rw [if_neg hk] at k4
    exact k4.elim
  rw [if_pos hk] at k4
  cases q : valsOf names env1 with
  | none => rw [q] at k4; exact k4.elim
  | some vals =>
  rw [q] at k4
  dsimp only at k4
  obtain ⟨base, e0, B⟩ := lentBase I1 L
  obtain ⟨f', fd, ps, F1, hm', kp', hb⟩ := (D base B).ok
  have ef : f' = f := by
    rw [hm] at hm'
    injection hm' with z
    injection z with z
    exact z.symm
  subst ef
  rw [hK] at e0
  have t : To W { W with cvl := cvOf vs } true := ⟨rfl, rfl, rfl, fun _ => ⟨rfl, rfl⟩⟩
  have t2 : To { W with cvl := cvOf vs } W true := ⟨rfl, rfl, rfl, fun _ => ⟨rfl, rfl⟩⟩
  have len : vs'.length = k := by
    rw [← hk]
    exact k3.len
  have sp : spF { W with cvl := cvOf vs } k F vs' H1 Q (noE σ) := by
    refine ⟨m1, ⟨S1.n, S1.l, some vals⟩, ds, len, relS_swap t k2 fun vals' ev p hp => ?_, relDs_to t (Nat.le_refl _) _ _ (relDs_okd _ _ k3) k3, ?_⟩
    · cases ev
      obtain ⟨i, v, h1, h2, h3⟩ := valsOf_ok k1 q p hp
      exact ⟨v, hl _ h1 v h2, relD_to t (Nat.le_refl _) _ _ (relD_okd _ _ h3) h3⟩
    · cases r : F ds ⟨S1.n, S1.l, some vals⟩ with
      | no => rw [r] at k4; exact k4.elim
      | exc c x S2 => rw [r] at k4; exact k4.elim
      | ok d S2 =>
        rw [r] at k4
        exact fun H' m' v ext rs rd => k4 H' m' v ext.to (relS_swap (cv := none) t2 rs fun _ z => by cases z) (relD_to t2 (Nat.le_refl _) _ _ (relD_okd _ _ rd) rd)
  have hl : us.length = ps.length := by rw [← r1.length]; exact F1.len _ _ _ _ sp
  have b := hb s1 us (by rw [← hK]; exact I1.kIn) (by rw [List.append_nil]; exact hl)
  rw [List.append_nil] at b
  refine wpAny_call (codeAny_mono (F1.run X.A X.stack s1 H1 ⟨us, []⟩ us vs' Q (noE σ) hr e0 b r1 sp) fun r s' hq => ?_)
  cases r with
  | error e => exact pas_noE (X := X) σ pins H1 s1 e s' I1 hq
  | ok fl =>
    cases fl with
    | ret u => exact I1.after hq
    | next => exact False.elim hq
    | brk => exact False.elim hq
    | cont => exact False.elim hq
end Z
set_option Elab.async false
set_option linter.all false
set_option autoImplicit false
set_option maxRecDepth 100000
set_option maxHeartbeats 2000000
/-! Z32: a lambda without parameters made, its function tracked. -/
namespace Z
open PySem PySem.Spec PyProof.Rows L2

def fLam (k : Nat) : FE := fun _ S => .ok (.lam k) S
section
variable {W : Wd} {H : Hp} {m : Nat → Addr} {n : Nat} {P c' : Addr} {q : Str} {ps : Array Value}
/-- a table gets one entry more, its code object is new -/
def tabUp (H : Hp) (P : Addr) (ps : Array Value) (pos : Pos) (c' : Addr) (q : Str) : Hp := upd (upd H P (.tbl (ps ++ #[rawInt pos.line, rawInt pos.col, .ref c']))) c' (LamX.CodeO c' q)
theorem tabUp_at {pos : Pos} (hP : H P = some (.tbl ps)) (hc : H c' = none) {b : Addr} {o : HO} (e : H b = some o) (nt : ∀ ps, o ≠ .tbl ps) : tabUp H P ps pos c' q b = some o := by
  unfold tabUp
  rw [upd_ne (ne_of_none e hc), upd_ne fun z => by
    rw [z, hP] at e
    exact nt ps (Option.some.inj e).symm]
  exact e
theorem tabUp_P {pos : Pos} (hP : H P = some (.tbl ps)) (hc : H c' = none) : tabUp H P ps pos c' q P = some (.tbl (ps ++ #[rawInt pos.line, rawInt pos.col, .ref c'])) := by
  unfold tabUp
  rw [upd_ne (ne_of_none hP hc), upd_same]
theorem tabUp_other {pos : Pos} (hc : H c' = none) {b : Addr} {o : HO} (e : H b = some o) (hb : b ≠ P) : tabUp H P ps pos c' q b = some o := by
  unfold tabUp
  rw [upd_ne (ne_of_none e hc), upd_ne hb]
  exact e
theorem ext_tab {pos : Pos} (hP : H P = some (.tbl ps)) (hc : H c' = none) : Ext W H m n (tabUp H P ps pos c' q) m n where
  le := Nat.le_refl _
  same := fun _ _ => rfl
  keep := fun b o e _ nt => tabUp_at hP hc e nt
  fresh := fun k h1 h2 => absurd h2 (Nat.not_lt.mpr h1)
  dom := fun b hb => by
    unfold tabUp at hb
    by_cases e1 : b = c'
    · rw [e1]; exact hc
    · rw [upd_ne e1] at hb
      by_cases e2 : b = P
      · rw [e2, upd_same] at hb; cases hb
      · rw [upd_ne e2] at hb; exact hb
  frz := fun b o u e => tabUp_at hP hc e fun _ z => by cases z
theorem relS_tab {S : Sto} {pos : Pos} (r : RelS W H m S) (hP : H P = some (.tbl ps)) (hc : H c' = none) (ht : TriplesOk ps.toList) (hm : (P, q) ∈ W.T) (hu : ∀ p ∈ W.T, p.1 = P → p.2 = q) : RelS W (tabUp H P ps pos c' q) m S where
  inj := r.inj
  at_ := fun k hk => by
    obtain ⟨b, ho, g, h, t⟩ := r.at_ k hk
    by_cases e : m k = P
    · rw [e] at h ⊢
      rw [hP] at h
      cases h
      refine ⟨b, _, g, tabUp_P hP hc, ?_⟩
      cases b with
      | hid => exact t.elim
      | lst _ => obtain ⟨_, z, _⟩ := t; cases z
      | dk _ => obtain ⟨_, z, _⟩ := t; cases z
      | dt _ => obtain ⟨_, z, _⟩ := t; cases z
      | fz _ => obtain ⟨_, _, z, _⟩ := t; cases z
      | ins _ _ => obtain ⟨_, _, z, _⟩ := t; cases z
    · exact ⟨b, ho, g, tabUp_other hc h e, ObR.ext (ext_tab hP hc) _ _ t⟩
  tabs := fun p hp => by
    obtain ⟨ps', a1, a2, a3⟩ := r.tabs p hp
    have keep : ∀ {c0 : Addr} {q0 : Str}, H c0 = some (LamX.CodeO c0 q0) → tabUp H P ps pos c' q c0 = some (LamX.CodeO c0 q0) := fun e => tabUp_at hP hc e LamX.codeO_ne
    by_cases e : p.1 = P
    · have eq := hu p hp e
      rw [e, hP] at a1
      cases a1
      have el : (ps ++ #[rawInt pos.line, rawInt pos.col, .ref c']).toList = ps.toList ++ [rawInt pos.line, rawInt pos.col, .ref c'] := by rw [Array.toList_append]
      refine ⟨_, by rw [e]; exact tabUp_P hP hc, by rw [el]; exact PySem.TriplesOk_snoc _ _ _ _ ht, fun p' cv h => ?_⟩
      rw [el] at h
      rcases LamX.among_app _ ht h with z | z
      · obtain ⟨c0, e1, e2⟩ := a3 p' cv z
        exact ⟨c0, e1, keep e2⟩
      · refine ⟨c', z, ?_⟩
        rw [eq]
        unfold tabUp
        rw [upd_same]
    · refine ⟨ps', tabUp_other hc a1 e, a2, fun p' cv h => ?_⟩
      obtain ⟨c0, e1, e2⟩ := a3 p' cv h
      exact ⟨c0, e1, keep e2⟩
  cells := fun vals hv => cells_ext0 (ext_tab hP hc).toExt0 (r.cells vals hv)
end
section
variable {X : Cx} {W : Wd} {E : St → XK}
theorem lam_end {pins : List (Addr × Obj)} {σ : St} {H1 : Hp} {m : Nat → Addr} {S : Sto} {s : Shared} {h' : Heap} {tk tk' : Nat} {Q : VK} {k : Nat} {c' : Addr} {pm ctv : Value} (I : Inv X pins σ H1 { s with heap := h', toks := tk }) (rs : RelS W H1 m S) (hcl : X.env.cells = W.cl) (hc : H1 c' = some (LamX.CodeO c' (W.lam k).qual))
    (h3 : ∀ H' m' v, Ext W H1 m S.n H' m' S.n → RelS W H' m' S → RelD W H' m' S.n (.lam k) v → Q v H') :
    EP X pins σ Q (.ref h'.objs.size) { s with heap := h'.push (PySem.W.kla_obj "<lambda>" (W.lam k).qual (W.lam k).params (W.lam k).body (W.lam k).scope (cloFrom X.env.cells (W.lam k).scope.names []) pm c' ctv), toks := tk' } := by
  have hn : H1 h'.objs.size = none := I.hok.fresh (Nat.le_refl _)
  have get : (h'.push (PySem.W.kla_obj "<lambda>" (W.lam k).qual (W.lam k).params (W.lam k).body (W.lam k).scope (cloFrom X.env.cells (W.lam k).scope.names []) pm c' ctv)).get? h'.objs.size = some (PySem.W.kla_obj "<lambda>" (W.lam k).qual (W.lam k).params (W.lam k).body (W.lam k).scope (cloFrom X.env.cells (W.lam k).scope.names []) pm c' ctv) := Heap.get?_push_size _ rfl
  have J := I.laid (t' := tk') (a := h'.objs.size) (o := lamO (W.lam k) W.cl h'.objs.size c') (h' := h'.push (PySem.W.kla_obj "<lambda>" (W.lam k).qual (W.lam k).params (W.lam k).body (W.lam k).scope (cloFrom X.env.cells (W.lam k).scope.names []) pm c' ctv)) (fun b o e => Heap.get?_push_of_some _ e) (Nat.le_refl _)
    ⟨⟨pm, ctv, by rw [get, hcl]⟩, ⟨_, get⟩, fun a b z kk => by
      obtain ⟨x, y, w⟩ := z
      exact ⟨x, y, kk _ w⟩⟩
  refine ⟨.ref h'.objs.size, _, J, rfl, h3 _ m _ (ext_upd hn) (rs.upd hn) ?_⟩
  unfold RelD
  exact ⟨h'.objs.size, c', rfl, ⟨upd_same, rs.off hn⟩, ⟨by rw [upd_ne (ne_of_none hc hn)]; exact hc, fun j hj z => by
    obtain ⟨b, ho, g, hh, t⟩ := rs.at_ j hj
    rw [z, hc] at hh
    cases hh
    cases b with
    | hid => exact t.elim
    | lst _ => obtain ⟨_, z, _⟩ := t; cases z
    | dk _ => obtain ⟨_, z, _⟩ := t; cases z
    | dt _ => obtain ⟨_, z, _⟩ := t; cases z
    | fz _ => obtain ⟨_, _, z, _⟩ := t; cases z
    | ins _ _ => obtain ⟨_, _, z, _⟩ := t; cases z⟩⟩
theorem z_lam {k : Nat} {c P : Addr} {params : Arguments} {body : Expr} {scope : Scope} {pos : Pos} (TB : LamX.TabB X.base X.mg c P) (hcode : X.env.code = .ref c) (hm : (P, X.env.qual ++ "<lambda>") ∈ W.T) (hu : ∀ p ∈ W.T, p.1 = P → p.2 = X.env.qual ++ "<lambda>") (hdef : defaultsOf params X.env = ([], []))
    (hfr : ∀ y ∈ scope.names, y.2 = .free → X.env.scope.names.lookup y.1 = some .cell) (hcl : X.env.cells = W.cl) (hL : W.lam k = ⟨X.env.qual ++ "<lambda>", params, body, scope⟩) : PE X (.Lambda params body scope pos) (tE W E (fLam k)) := by
  refine ⟨fun pins s σ H Q I h => ?_⟩
  obtain ⟨env, m, S, h1, h2, h3⟩ := h
  have h3 : ∀ H' m' v, Ext W H m S.n H' m' S.n → RelS W H' m' S → RelD W H' m' S.n (.lam k) v → Q v H' := h3
  have hfree : ∀ y ∈ scope.names, y.2 = .free → ∃ c, X.env.cells.lookup y.1 = some c := fun y hy e => I.ok.has _ (.inl (hfr y hy e))
  obtain ⟨ps, hP, ht, ha⟩ := h2.tabs _ hm
  have hP' : s.heap.get? P = some { cls := .none, data := .fields ps } := I.hok P _ hP
  refine PySem.W.kla_eval hdef ?_
  cases hc : codeAmong pos ps.toList with
  | some cv =>
    obtain ⟨c', rfl, hco⟩ := ha pos cv hc
    refine PySem.W.kla_makeFunctionHit (mg := X.mg) (closure_ok hfree) I.ok.glob (I.mod.glob.keeps I.bk) hcode (TB.code.keeps I.bk) hP' ht hc (TB.bm.keeps I.bk) fun ctv h' tk hx _ => ?_
    have z := lam_end (k := k) (c' := c') (pm := (X.mg "__name__").getD .none) (ctv := ctv) (tk' := tk) (s := s) (I.kept (t' := tk) hx) h2 hcl (by rw [hL]; exact hco) h3
    rw [hL] at z
    exact z
  | none =>
    refine PySem.W.kla_makeFunction (mg := X.mg) (closure_ok hfree) I.ok.glob (I.mod.glob.keeps I.bk) hcode (TB.code.keeps I.bk) hP' ht hc TB.gP (TB.bm.keeps I.bk) fun c' ctv h' tk hx hge _ hrec htb => ?_
    obtain ⟨c2, oc, vs, t, e2, hoc, hd, hv⟩ := hrec
    cases e2
    have nC : H c' = none := I.hok.fresh hge
    have I1 : Inv X pins σ (tabUp H P ps pos c' (X.env.qual ++ "<lambda>")) { s with heap := h', toks := tk } := LamX.inv_table (t' := tk) I hP hx htb hge ⟨oc, vs, t, hoc, hd, hv⟩
    have e := ext_tab (W := W) (m := m) (n := S.n) (q := X.env.qual ++ "<lambda>") (pos := pos) hP nC
    have z := lam_end (k := k) (c' := c') (pm := (X.mg "__name__").getD .none) (ctv := ctv) (tk' := tk) (s := s) I1 (relS_tab h2 hP nC ht hm hu) hcl (by rw [hL]; unfold tabUp; rw [upd_same]) fun H' m' v ex rs rd => h3 H' m' v (e.trans ex) rs rd
    rw [hL] at z
    exact z
end
end Z
set_option Elab.async false
set_option linter.all false
set_option autoImplicit false
set_option maxRecDepth 100000
set_option maxHeartbeats 4000000
/-! Z33: comprehensions whose element may use what holds of the maker where the block starts. -/
namespace Z
open PySem PySem.Spec PyProof.Rows L2

/-- a loop's state: turn i, the measure n -/
def At (B : Cx) (tn : Nat → Heap → Prop) (V : Nat → Nat → Hp → Prop) (σ0 : St) (n : Nat) (s : Shared) : Prop := ∃ i H, Inv B [] σ0 H s ∧ tn i s.heap ∧ (∀ b ∈ B.ex, H b = none) ∧ V i n H
/-- an expression of the block, where all but the block's own slots are as at the start -/
structure PEw (B : Cx) (e : Expr) (te : TE) (vs : List Nat) (σ0 : St) : Prop where
  run : ∀ (pins : List (Addr × Obj)) (s : Shared) (σ : St) (H : Hp) (Q : VK), wipe σ vs = σ0 → Inv B pins σ H s → te σ H Q → wpAny (model B.prog B.w) B.A (eval e B.env) (EP B pins σ Q) B.xe s
/-- what one turn may rely on, and gives -/
def Step (J : It) (g : TG) (tt : TT) (te : TE) (vs : List Nat) (D : Addr) (V : Nat → Nat → Hp → Prop) (Fin : Hp → Prop) (σ0 : St) : Prop := ∀ i n H, V i n H → (J.stop i H ∧ Fin H) ∨
  (J.go i H ∧ ∃ Nx : Hp → Prop, (∀ H', Nx H' → ∃ k, k < n ∧ V (i + 1) k H') ∧ ∀ x H', J.yld i H x H' → g x σ0 H' fun σ2 H2 => wipe σ2 vs = σ0 ∧ tt σ2 H2 fun b H3 =>
    if b = true then te σ2 H3 fun y H4 => ∃ acc, H4 D = some (.lst acc) ∧ acc.length < sizeLine ∧ Nx (upd H4 D (.lst (acc ++ [y]))) else Nx H3)
section
variable {B : Cx} {tg elt iter : Expr} {ifs : List Expr} {scope : Scope} {pos : Pos} {J : It} {it D : Addr} {tn : Nat → Heap → Prop} {g : TG} {tt : TT} {te : TE} {vs : List Nat} {V : Nat → Nat → Hp → Prop} {Fin : Hp → Prop} {σ0 : St}
theorem fp_of {σ : St} {H : Hp} {s : Shared} (hp : B.pn = []) (I : Inv B [] σ H s) (hn : ∀ b ∈ B.ex, H b = none) : ∀ b ∈ B.ex, FpOk B [] H b := fun b hb => by
  obtain ⟨e1, e2⟩ := I.ok.exf b hb
  refine ⟨hn b hb, e1, I.ok.exfs b hb, .inl hb, e2, fun p q => ?_⟩
  rw [hp] at q
  cases q
/-- the next turn's state, from the pinned one -/
theorem at_next {i n : Nat} {σ σ' : St} {H : Hp} {h7 : Heap} {s : Shared} {Nx : Hp → Prop} (T : Turn B.prog B.w B.K tg J B.ex it tn) (t7 : tn (i + 1) h7) (hNx : ∀ H', Nx H' → ∃ k, k < n ∧ V (i + 1) k H') (hw : wipe σ vs = σ0) (I : Inv B ([] ++ pinsAt B.ex h7) σ H s) (nx : Nx H) : ∃ k, k < n ∧ At B tn V σ0 k s := by
  obtain ⟨k, hk, v⟩ := hNx H nx
  have pin : ∀ b ∈ B.ex, ∀ o, h7.get? b = some o → s.heap.get? b = some o ∧ H b = none := fun b hb o e => by
    obtain ⟨z1, z2, _⟩ := I.pin (b, o) (List.mem_append_right _ (List.mem_append_right _ (mem_pinsAt hb e)))
    exact ⟨z1, z2⟩
  refine ⟨k, hk, i + 1, H, (I.unpinned (pins := [])).weak (by rw [← hw, wipe_length]) (fun j x e => ?_), T.keep _ _ _ t7 (fun b hb o e => (pin b hb o e).1), fun b hb => ?_, v⟩
  · rw [← hw] at e
    exact (wipe_some e).1
  · obtain ⟨o, e, _⟩ := T.obj _ _ t7 b hb
    exact (pin b hb o e).2
theorem loop_runs {R : Result → Shared → Prop} (hx : B.xe = fun _ _ => False) (hp : B.pn = []) (hc : B.calm = true) (T : Turn B.prog B.w B.K tg J B.ex it tn) (pg : PG B tg g) (pt : PTs B ifs tt) (pe : PEw B elt te vs σ0) (st : Step J g tt te vs D V Fin σ0)
    (hend : ∀ s H, Inv B [] σ0 H s → Fin H → R (.ok .next) s) {n : Nat} {s : Shared} (a : At B tn V σ0 n s) : codeAny (model B.prog B.w) B.A (.compLoop (.ListComp elt [⟨tg, iter, ifs, 0⟩] scope pos) 0 (.ref it) (.ref D) B.env) R s := by
  have noF : ∀ {α : Type} {t : Sem α} {Q Q' : α → Shared → Prop} {M : Model} {A : Around} {E : Value → Shared → Prop} {s : Shared}, wpAny M A t Q B.xe s → (∀ a s, Q a s → Q' a s) → wpAny M A t Q' E s := fun {α t Q Q' M A E s} h q => by
    rw [hx] at h
    exact thnF h q
  refine compLoop_any (At B tn V σ0) (fun n s5 a => ?_) n a
  obtain ⟨i, H, I, t, nf, v⟩ := a
  rcases st i n H v with ⟨stop, f⟩ | ⟨go, Nx, hNx, step⟩
  · exact thnF (T.done B rfl rfl rfl hc i [] s5 _ H (fun _ _ => False) I (fp_of hp I nf) t stop) fun r s6 ⟨hr, I6⟩ => by
      subst hr
      exact hend s6 H I6 f
  · refine thnF (T.item B rfl rfl rfl hc i [] s5 _ H (fun _ _ => False) I (fp_of hp I nf) t go) fun r s6 ⟨u, hr, h6⟩ => ?_
    subst hr
    refine thnF h6 fun _ s7 ⟨x, H7, I7, r7, y7, t7, n7⟩ => ?_
    refine noF (pg.run _ s7 _ H7 x u _ (I7.pinned (fp_of hp I7 n7) (T.obj _ _ t7)) r7 (step x H7 y7)) fun _ s8 ⟨σ8, H8, I8, w8, q8⟩ => ?_
    refine noF (pt.run _ s8 σ8 H8 _ I8 q8) fun b s9 ⟨H9, I9, q9⟩ => ?_
    dsimp only at q9 ⊢
    by_cases hb : b = true
    · rw [if_pos hb] at q9 ⊢
      refine noF (pe.run _ s9 σ8 H9 _ w8 I9 q9) fun z s10 ⟨y, H10, I10, r10, acc, d10, z10, nx⟩ => ?_
      exact app_ok I10 d10 z10 r10 fun s11 I11 => at_next (σ' := σ8) T t7 hNx w8 I11 nx
    · rw [if_neg hb] at q9 ⊢
      exact at_next (σ' := σ8) T t7 hNx w8 I9 q9
end
theorem wipe_at {σ : St} {i : Nat} : ∀ {vs : List Nat}, i ∉ vs → (wipe σ vs)[i]? = σ[i]?
  | [], _ => rfl
  | v :: vs, h => by
    show ((wipe σ vs).set v none)[i]? = σ[i]?
    rw [List.getElem?_set_ne fun z => h (by rw [z]; exact List.mem_cons_self ..)]
    exact wipe_at fun z => h (List.mem_cons_of_mem _ z)
section
variable {X : Cx} {pins : List (Addr × Obj)} {s : Shared} {σ : St} {H : Hp} {Q : VK} {elt tg iter : Expr} {ifs : List Expr} {scope : Scope} {own : List (Str × Nat)} {pos : Pos} {wi : TI} {g : TG} {tt : TT} {te : TE}
theorem lc_here (hc : X.calm = true) (hN : X.N.Nodup) (I : Inv X pins σ H s) (hi : PI X tg iter wi) (ok : BlkOk X.N X.env.scope scope own)
    (hg : ∀ (s : Shared) (H : Hp) (C : Addr) (cl : List (Str × Addr)) (fp : List Addr), PG (X.blk s H scope (compEnvC scope cl C X.env) fp) tg g) (ht : ∀ (s : Shared) (H : Hp) (C : Addr) (cl : List (Str × Addr)) (fp : List Addr), PTs (X.blk s H scope (compEnvC scope cl C X.env) fp) ifs tt)
    (he : ∀ (s : Shared) (H : Hp) (C : Addr) (cl : List (Str × Addr)) (fp : List Addr), Inv X pins σ H s → (∀ b ∈ fp, FpOk X pins H b) → PEw (X.blk s H scope (compEnvC scope cl C X.env) fp) elt te (own.map (·.2)) (wipe σ (own.map (·.2)))) (hs : ∀ x, foldedSetIterable iter X.env x = pure x)
    (h : tLc wi g tt te (own.map (·.2)) σ H Q) : wpAny (model X.prog X.w) X.A (eval (.ListComp elt [⟨tg, iter, ifs, 0⟩] scope pos) X.env) (EP X pins σ Q) X.xe s := by
  have caught : ∀ y ∈ scope.names, y.2 = .free → ∃ c, X.env.cells.lookup y.1 = some c := fun y hy e => (ok.free y hy e).elim (fun k => I.ok.has _ (.inl k)) fun k => I.ok.has _ (.inr k)
  rw [eval_ListComp]
  refine wpAny_comprehension_free (use := none) rfl hs (closure_ok caught) ok.kind (fun y hy e => by rw [ok.uniq y hy, e]) (thn (hi.run pins s σ H _ I h) fun xv s1 hx => thn hx fun itv s2 pie => ?_)
  obtain ⟨it, fp, tn, J, H2, rfl, I2, T, t2, f2, q⟩ := pie
  refine wpAny_newObj_type (newEnv_comp ?_) (Nat.zero_le sizeLine)
  have nD : H2 s2.heap.objs.size = none := I2.hok.fresh (Nat.le_refl _)
  obtain ⟨V, ⟨n0, v0⟩, turn⟩ := q _ nD
  -- the new list tracked
  have old : ∀ b o, s2.heap.get? b = some o → (s2.heap.push { cls := .type "list", data := .seq ([] : List Value).toArray }).get? b = some o := fun b o e => Heap.get?_push_of_some _ e
  have I3 : Inv X pins σ (upd H2 s2.heap.objs.size (.lst [])) { s2 with heap := s2.heap.push { cls := .type "list", data := .seq ([] : List Value).toArray } } :=
    I2.laid (t' := s2.toks) old (Nat.le_refl _) ⟨Nat.zero_le _, [], 0, .nil, Heap.get?_push_size _ rfl⟩
  have there : ∀ b ∈ fp, b < s2.heap.objs.size := fun b hb => let ⟨_, e, _⟩ := T.obj _ _ t2 b hb; Heap.lt_size e
  have f3 : ∀ b ∈ fp, FpOk X pins (upd H2 s2.heap.objs.size (.lst [])) b := fun b hb => ⟨by rw [upd_ne (Nat.ne_of_lt (there b hb))]; exact (f2 b hb).1, (f2 b hb).2⟩
  have t3 := T.keep _ _ _ t2 fun b _ o e => old b o e
  generalize hD : s2.heap.objs.size = D at nD v0 turn I3 f3
  generalize hs3 : ({ s2 with heap := s2.heap.push { cls := .type "list", data := .seq ([] : List Value).toArray } } : Shared) = s3 at I3
  have hh3 : s3.heap = s2.heap.push { cls := .type "list", data := .seq ([] : List Value).toArray } := by rw [← hs3]
  rw [← hh3] at t3
  have sz3 : ∀ b ∈ fp, b < s3.heap.objs.size := fun b hb => by
    rw [hh3, Heap.size_push]
    exact Nat.lt_succ_of_lt (there b hb)
  generalize hH3 : upd H2 D (.lst []) = H3 at I3 f3 v0
  have IB := block_start I3 ok hN fun b hb => ⟨f3 b hb, sz3 b hb⟩
  have pg := hg s3 H3 s3.heap.objs.size (cellsFrom (s3.heap.objs.size + 1) scope.names (cloFrom X.env.cells scope.names [])) fp
  have pt := ht s3 H3 s3.heap.objs.size (cellsFrom (s3.heap.objs.size + 1) scope.names (cloFrom X.env.cells scope.names [])) fp
  have pe := he s3 H3 s3.heap.objs.size (cellsFrom (s3.heap.objs.size + 1) scope.names (cloFrom X.env.cells scope.names [])) fp I3 f3
  have t4 := T.keep _ _ (pushCells (s3.heap.push { cls := .type "dict", data := .dict #[] }) scope.names) t3 fun b _ o e => pushCells_keeps _ _ _ _ (Heap.get?_push_of_some _ e)
  have fin : codeAny (model X.prog X.w) X.A (.compLoop (.ListComp elt [⟨tg, iter, ifs, 0⟩] scope pos) 0 (.ref it) (.ref D) (compEnvC scope (cellsFrom (s3.heap.objs.size + 1) scope.names (cloFrom X.env.cells scope.names [])) s3.heap.objs.size X.env))
      (compPost (model X.prog X.w) X.A X.xe none (EP X pins σ Q) (.ref D) s3.heap.objs.size) { s3 with heap := pushCells (s3.heap.push { cls := .type "dict", data := .dict #[] }) scope.names } := by
    refine loop_runs (B := X.blk s3 H3 scope (compEnvC scope (cellsFrom (s3.heap.objs.size + 1) scope.names (cloFrom X.env.cells scope.names [])) s3.heap.objs.size X.env) fp) (V := V) (Fin := Q (.ref D)) rfl rfl hc T pg pt pe (fun i n H v => ?_) (fun s' H' I' q' => ?_) (n := n0) ⟨0, H3, IB, t4, fun b hb => (f3 b hb).1, v0⟩
    · rcases turn i n H v with ⟨a, b⟩ | ⟨a, Nx, b, c⟩
      · exact .inl ⟨a, b⟩
      · exact .inr ⟨a, Nx, b, c⟩
    · have back : Inv X pins σ H' s' := I3.call' (ch := fp) I'.os I'.base I'.hok I'.bare fun b hb => by
        obtain ⟨_, z1, _, z3, z4, z5⟩ := f3 b hb
        exact ⟨z3, z1, z4, z5⟩
      obtain ⟨m, hn, _⟩ := I'.loc
      obtain ⟨y0, y1, _, y3, y4, y5⟩ := I3.fpOk (Nat.le_refl _) (H' := H') I'.free
      exact ⟨m, hn, fun h'' sb => ⟨.ref D, H', back.turned (t' := s'.toks) (fun b o hb e => (sb.2 b hb).trans e) y0 y1 y3 y4 y5, rfl, q'⟩⟩
  have go := codeAny_compStart_list fin (T.self X.A 0 _ _ _ t4 fin)
  subst hs3
  subst hD
  exact go
end
end Z
set_option Elab.async false
set_option linter.all false
set_option autoImplicit false
set_option maxRecDepth 100000
set_option maxHeartbeats 4000000
/-! Z34: [f(..) for .. in ..] in the maker, its cells lent to f. -/
namespace Z
open PySem PySem.Spec PyProof.Rows L2

def valsV (σ : St) (names : List (Str × Nat)) : List (Str × V) := names.filterMap fun p => match σ[p.2]? with
  | some (some v) => some (p.1, v)
  | _ => none
theorem valsV_mem {σ : St} {names : List (Str × Nat)} {q : Str × V} (h : q ∈ valsV σ names) : ∃ i, (q.1, i) ∈ names ∧ σ[i]? = some (some q.2) := by
  obtain ⟨p, hp, e⟩ := List.mem_filterMap.mp h
  split at e
  · rename_i v hv
    cases e
    exact ⟨p.2, hp, hv⟩
  · cases e
theorem valsV_lookup {σ : St} : ∀ {names : List (Str × Nat)}, (names.map (·.1)).Nodup → ∀ p ∈ names, ∀ v, σ[p.2]? = some (some v) → (valsV σ names).lookup p.1 = some v
  | [], _, p, hp, _, _ => by cases hp
  | q :: names, nd, p, hp, v, e => by
    have nd : (q.1 :: names.map (·.1)).Nodup := nd
    rw [List.nodup_cons] at nd
    rcases List.mem_cons.mp hp with z | z
    · subst z
      unfold valsV
      rw [List.filterMap_cons]
      simp only [e, List.lookup, beq_self_eq_true]
    · have ih := valsV_lookup nd.2 p z v e
      have ne : p.1 ≠ q.1 := fun w => nd.1 (by rw [← w]; exact List.mem_map_of_mem z)
      unfold valsV at ih ⊢
      rw [List.filterMap_cons]
      split
      · exact ih
      · rename_i b hb
        split at hb
        · cases hb
          rw [List.lookup, beq_false_of_ne ne]
          exact ih
        · cases hb
/-- the names that are lent: cells of the maker, not slots of the block -/
structure LendN (X : Cx) (own : List Nat) (names : List (Str × Nat)) : Prop where
  nd : (names.map (·.1)).Nodup
  ix : ∀ p ∈ names, X.N[p.2]? = some p.1
  cell : ∀ p ∈ names, X.env.scope.names.lookup p.1 = some .cell
  fn : ∀ p ∈ names, X.fn p.1 = true
  off : ∀ p ∈ names, p.2 ∉ own
theorem lentX_of {X : Cx} {pins : List (Addr × Obj)} {σ : St} {H : Hp} {s : Shared} {own : List Nat} {names : List (Str × Nat)} {scope : Scope} {cenv : Env} {fp : List Addr} (L : LendN X own names) (I : Inv X pins σ H s) (f : ∀ b ∈ fp, FpOk X pins H b) : LentX (X.blk s H scope cenv fp) X.env.cells (valsV σ names) where
  inj := I.ok.inj
  at_ := fun q hq => by
    obtain ⟨i, hi, hv⟩ := valsV_mem hq
    obtain ⟨m, hn, hl⟩ := I.loc
    have hc := L.cell _ hi
    obtain ⟨u, r, lk⟩ := hl i q.1 q.2 (L.ix _ hi) hv (.inr (.inl hc))
    rcases lk with ⟨k, _⟩ | ⟨_, c, e, o, ho, hd⟩
    · have k : X.env.scope.names.lookup q.1 = some .local := k
      rw [show X.env.scope.names.lookup q.1 = some .cell from hc] at k
      cases k
    · have cs : c ∉ frs X.stack := fun hm => by
        rcases List.mem_cons.mp (I.stkSub _ hm) with z | z
        · exact I.cne _ _ e z
        · obtain ⟨_, o', ho', _⟩ := I.ok.funs.mem z
          exact absurd (Heap.lt_size ho') (Nat.not_lt.mpr (I.ok.cab _ _ (L.fn _ hi) e))
      exact ⟨c, o, u, e, ho, hd, r, I.freeC _ _ e, cs, fun hm => (f c hm).2.2.2.2.1 _ _ e rfl, cs⟩
section
variable {X : Cx} {W : Wd} {E : St → XK} {pos : Pos} {elt tg iter : Expr} {ifs : List Expr} {scope : Scope} {own : List (Str × Nat)} {fi : En → Sto → R Nx} {t : Tg} {ft : En → Sto → R Bool} {fe : FE} {names : List (Str × Nat)}
theorem z_lcomp (n : Nat) (hc : X.calm = true) (hN : X.N.Nodup) (hcl : X.env.cells = W.cl) (L : LendN X (own.map (·.2)) names) (hi : PI X tg iter (tI W E fi)) (ok : BlkOk X.N X.env.scope scope own) (hv : ∀ i ∈ t.slots, i ∈ own.map (·.2))
    (hg : ∀ (s : Shared) (H : Hp) (C : Addr) (cl : List (Str × Addr)) (fp : List Addr), PG (X.blk s H scope (compEnvC scope cl C X.env) fp) tg (tTg W t)) (ht : ∀ (s : Shared) (H : Hp) (C : Addr) (cl : List (Str × Addr)) (fp : List Addr), PTs (X.blk s H scope (compEnvC scope cl C X.env) fp) ifs (tT W noE ft))
    (he : ∀ (vs : List (Str × V)) (s : Shared) (H : Hp) (C : Addr) (cl : List (Str × Addr)) (fp : List Addr), LentX (X.blk s H scope (compEnvC scope cl C X.env) fp) W.cl vs →
      PE (X.blk s H scope (compEnvC scope cl C X.env) fp) elt (fun σ H Q => (∀ p ∈ names, ∀ v, σ[p.2]? = some (some v) → vs.lookup p.1 = some v) ∧ tE W noE fe σ H Q)) (hs : ∀ x, foldedSetIterable iter X.env x = pure x) :
    PE X (.ListComp elt [⟨tg, iter, ifs, 0⟩] scope pos) (tE W E (fComp (own.map (·.2)) fi t ft fe n)) := by
  refine ⟨fun pins s σ H Q I h => ?_⟩
  refine lc_here hc hN I hi ok hg ht (fun s3 H3 C cl fp I3 f3 => ⟨fun pins' s' σ' H' Q' hw I' h' => ?_⟩) hs (tLc_read hv h)
  have lx := lentX_of (scope := scope) (cenv := compEnvC scope cl C X.env) L I3 f3
  rw [hcl] at lx
  refine (he _ s3 H3 C cl fp lx).run pins' s' σ' H' Q' I' ⟨fun p hp v hv' => valsV_lookup L.nd p hp v ?_, h'⟩
  have z := L.off p hp
  rw [← wipe_at (σ := σ) z, ← hw, wipe_at z]
  exact hv'
end
end Z
set_option Elab.async false
set_option linter.all false
set_option autoImplicit false
set_option maxRecDepth 100000
set_option maxHeartbeats 4000000
/-! Z35: the def that makes closures: its cells are the setting's while it runs; the store is cut at its end. -/
namespace Z
open PySem PySem.Spec PyProof.Rows L2

/-- the code object of the function at f -/
def codeAt (K : PySem.W.Frag) (f : Addr) : Option Value := match K.lookup f with
  | some ⟨_, _, .func fd, _⟩ => some fd.code
  | _ => none
theorem FnZ.ofC {P : Program} {w : World} {K : PySem.W.Frag} {mg : Str → Option Value} {base : Heap} {x qual : Str} {params : Arguments} {body : List Stmt} {scope : Scope} {dvs : List V} {kws : List (Str × V)} {f : Addr} {fd : FuncData} {N ps : List Str} {k : Nat} {sp : Sp} {cdv : Value}
    (F : FunD K x qual params body scope dvs kws f fd) (hcv : codeAt K f = some cdv) (S : FnScope N ps scope) (len : ∀ vs H Q E, sp vs H Q E → vs.length = ps.length)
    (hbody : ∀ (A : Around) (outer : List Env) (s : Shared) (H : Hp) (vs : List V) (Q : VK) (E : XK), RoomG k (A.deeper (envOfC qual scope s.heap.objs.size f cdv)) → sp vs H Q E →
      ∃ t, PSs (cxOf (L2.CX P w) P w K mg base N qual scope f cdv A outer s H E) body t ∧ t { nx := fun _ H' => Q .non H', rt := Q } (L2.start N vs) H) : FnZ P w K mg base (k + 1) f fd ps sp := by
  have F0 := F
  obtain ⟨oc, od, dV, kV, doc, pm, an, cdv', ct, osl, e, lk, hcd, _, _⟩ := F.ex
  have ec : cdv' = cdv := by
    unfold codeAt at hcv
    rw [lk, e] at hcv
    exact Option.some.inj hcv
  subst ec
  refine ⟨len, fun A outer s H args us vs Q E hr e0 hb r hsp => ?_⟩
  have hl := len _ _ _ _ hsp
  have KX : K.In s.heap := e0.mod.kin.keeps fun b o e => (e0.bs b o e).1
  have lim : s.heap.NoLimit := e0.mod.nolimit.keeps fun b o e => (e0.bs b o e).1
  have hkind : ∀ y ∈ ps.zip us, scope.names.lookup y.1 = some .local ∨ (scope.names.lookup y.1 = some .cell ∧ ((cellsFrom (s.heap.objs.size + 1) scope.names []).lookup y.1).isSome = true) := fun y hy => by
    rcases S.par y.1 (List.of_mem_zip hy).1 with q | q
    · exact .inl q
    · exact .inr ⟨q, PySem.W.cellsFrom_some _ _ _ (.inl q)⟩
  subst e
  refine codeAny_call_function hr.depth (KX _ _ lk) rfl S.co S.gen rfl (PySem.W.codeRec_of KX hcd) (hb _ _ _ _ ?_)
  refine wpAny_newFunctionEnv_cells S.kind hkind fun env he s1 x => ?_
  subst he
  refine ⟨lim.keeps x.toInCall.keep, codeAny_func ?_⟩
  obtain ⟨t, ht, hq⟩ := hbody A outer s H vs Q E (hr.deeper _) hsp
  have I : Inv (cxOf (L2.CX P w) P w K mg base N qual scope f cdv' A outer s H E) [] (L2.start N vs) H s1 := inv_start S hr.hd e0 hl r x
  refine wpAny_mono (ht.run [] s1 (L2.start N vs) H _ I hq) (fun fl s' hs => ?_) fun e s' hs => hs
  cases fl with
  | ret u =>
    obtain ⟨v, σ', H', J, rv, q⟩ := hs
    exact ⟨v, H', J.os, J.bare, J.base, J.hok, rv, q⟩
  | next =>
    obtain ⟨σ', H', J, q⟩ := hs
    exact ⟨V.non, H', J.os, J.bare, J.base, J.hok, rfl, q⟩
  | brk =>
    obtain ⟨_, _, _, q⟩ := hs
    exact False.elim q
  | cont =>
    obtain ⟨_, _, _, q⟩ := hs
    exact False.elim q
/-- a run in its own setting -/
def runM (n : Nat) (g : En → Sto → RS) : Fn := fun ds S => if okDs false S.n ds = true ∧ okS false S.n S = true ∧ S.cv.isNone = true then (match (g (startE n ds) (S.cut S.n)).fin with
  | .ok d S' => if okD false S.n d = true ∧ okS false S.n S' = true then .ok d (S'.cut S.n) else .no
  | _ => .no) else .no
theorem Ext.cut {W W2 : Wd} {H H' : Hp} {m m' : Nat → Addr} {n n' : Nat} (e : Ext W H m n H' m' n') : Ext W2 H m n H' m' n :=
  ⟨⟨Nat.le_refl _, e.same, e.keep, fun k h1 h2 => absurd h2 (Nat.not_lt.mpr h1), e.dom⟩, e.frz⟩
theorem w_defM {P : Program} {w : World} {mg : Str → Option Value} {base : Heap} {N : List Str} {scope : Scope} {f c : Addr} {W : Wd} {x : Str} {params : Arguments} {body : List Stmt} {fd : FuncData} {ps : List Str} {j : Nat} {g : En → Sto → RS} (hfr : ∀ x ∈ bNs, mg x = none) (F : FunD W.K x x params body scope [] [] f fd) (hcv : codeAt W.K f = some (.ref c)) (S : FnScope N ps scope) (hm : mg x = some (.ref f)) (hb : Binds W.K fd ps [])
    (h : ∀ (A : Around) (outer : List Env) (s : Shared) (H : Hp) (E : XK) (cl : List (Str × Addr)), (envOfC x scope s.heap.objs.size f (.ref c)).cells = cl → ∀ [Ctx { W with cl := cl } (cxOf (L2.CX P w) P w W.K mg base N x scope f (.ref c) A outer s H E) j], PSs (cxOf (L2.CX P w) P w W.K mg base N x scope f (.ref c) A outer s H E) body (tS { W with cl := cl } (fun _ => E) g)) :
    Def W P w mg base (j + 1) x ps.length (runM N.length g) := by
  refine ⟨f, fd, ps, FnZ.ofC F hcv S (fun vs H Q E h => ?_) (fun A outer s H vs Q E hr hsp => ?_), hm, F.kp, hb⟩
  · obtain ⟨_, _, _, hl, _⟩ := h
    exact hl
  · obtain ⟨m, S0, ds, hl, rs, rd, p⟩ := hsp
    have C : Ctx { W with cl := (envOfC x scope s.heap.objs.size f (.ref c)).cells } (cxOf (L2.CX P w) P w W.K mg base N x scope f (.ref c) A outer s H E) j := ⟨rfl, rfl, hr, hfr⟩
    refine ⟨_, h A outer s H E _ rfl, ?_⟩
    unfold runM at p
    by_cases ok : okDs false S0.n ds = true ∧ okS false S0.n S0 = true ∧ S0.cv.isNone = true
    · rw [if_pos ok] at p
      have t : To W { W with cl := (envOfC x scope s.heap.objs.size f (.ref c)).cells } false := ⟨rfl, rfl, rfl, fun z => by cases z⟩
      have t2 : To { W with cl := (envOfC x scope s.heap.objs.size f (.ref c)).cells } W false := ⟨rfl, rfl, rfl, fun z => by cases z⟩
      refine ⟨startE N.length ds, m, S0.cut S0.n, relDs_map (relDs_to t (Nat.le_refl _) _ _ ok.1 rd) N, relS_cut t rs ok.2.1, fin_post ?_⟩
      show PostG _ _ E H m S0.n _ Q
      cases q : (g (startE N.length ds) (S0.cut S0.n)).fin with
      | no => rw [q] at p; exact p.elim
      | exc k v S' => rw [q] at p; exact p.elim
      | ok d S' =>
        rw [q] at p
        dsimp only at p
        by_cases ok2 : okD false S0.n d = true ∧ okS false S0.n S' = true
        · rw [if_pos ok2] at p
          refine fun H' m' v ext rs' rd' => p H' m' v ext.cut (relS_cut t2 rs' ok2.2) (relD_to t2 ?_ _ _ ok2.1 rd')
          exact ext.le
        · rw [if_neg ok2] at p
          exact p.elim
    · rw [if_neg ok] at p
      exact p.elim
end Z
set_option Elab.async false
set_option linter.all false
set_option autoImplicit false
set_option maxRecDepth 100000
set_option maxHeartbeats 2000000
/-! Z36: lambdas, lent calls: side conditions closed. -/
namespace Z
open PySem PySem.Spec PyProof.Rows L2

def lamF (sc scope : Scope) : Bool := scope.names.all fun y => match y.2 with
  | .free => decide (sc.names.lookup y.1 = some .cell)
  | _ => true
theorem lamF_ok {sc scope : Scope} (h : lamF sc scope = true) : ∀ y ∈ scope.names, y.2 = .free → sc.names.lookup y.1 = some .cell := fun y hy e => by
  have z := List.all_eq_true.mp h y hy
  rw [e] at z
  exact of_decide_eq_true z
/-- what the maker's code object and its table are -/
structure MakF (W : Wd) (mg : Str → Option Value) (base : Heap) (c P : Addr) (q : Str) : Prop where
  tb : LamX.TabB base mg c P
  tm : (P, q) ∈ W.T
  tu : ∀ p ∈ W.T, p.1 = P → p.2 = q
theorem w_lam {W : Wd} {X : Cx} {E : St → XK} {c P : Addr} {params : Arguments} {body : Expr} {scope : Scope} {pos : Pos} (k : Nat) (M : MakF W X.mg X.base c P (X.env.qual ++ "<lambda>")) (hcl : X.env.cells = W.cl) (hL : W.lam k = ⟨X.env.qual ++ "<lambda>", params, body, scope⟩) (hcode : X.env.code = .ref c := by rfl) (hdef : defaultsOf params X.env = ([], []) := by rfl)
    (hf : lamF X.env.scope scope = true := by kernel_rfl) : PE X (.Lambda params body scope pos) (tE W E (fLam k)) := z_lam M.tb hcode M.tm M.tu hdef (lamF_ok hf) hcl hL
def lendC (X : Cx) (own : List Nat) (names : List (Str × Nat)) : Bool := decide (names.map (·.1)).Nodup && (names.all (fun p => decide (X.N[p.2]? = some p.1)) && (names.all (fun p => decide (X.env.scope.names.lookup p.1 = some .cell)) && (names.all (fun p => X.fn p.1) && names.all fun p => decide (p.2 ∉ own))))
theorem lendC_ok {X : Cx} {own : List Nat} {names : List (Str × Nat)} (h : lendC X own names = true) : LendN X own names := by
  unfold lendC at h
  simp only [Bool.and_eq_true, List.all_eq_true, decide_eq_true_eq] at h
  obtain ⟨h1, h2, h3, h4, h5⟩ := h
  exact ⟨h1, h2, h3, h4, h5⟩
section
variable {W : Wd} {X : Cx} {j : Nat} [C : Ctx W X j] {E : St → XK} {pos p : Pos} {elt tg iter e : Expr} {es : List Expr} {fs : List FE} {ifs : List Expr} {scope : Scope} {fi : En → Sto → R Nx} {t : Tg} {ft : En → Sto → R Bool} {fe : FE}
include C
theorem w_lcomp (own : List (Str × Nat)) (names : List (Str × Nat)) (n : Nat) (hcl : X.env.cells = W.cl) (hi : PI X tg iter (tI W E fi))
    (hg : ∀ (s : Shared) (H : Hp) (C : Addr) (cl : List (Str × Addr)) (fp : List Addr), PG (X.blk s H scope (compEnvC scope cl C X.env) fp) tg (tTg W t)) (ht : ∀ (s : Shared) (H : Hp) (C : Addr) (cl : List (Str × Addr)) (fp : List Addr), PTs (X.blk s H scope (compEnvC scope cl C X.env) fp) ifs (tT W noE ft))
    (he : ∀ (vs : List (Str × V)) (s : Shared) (H : Hp) (C : Addr) (cl : List (Str × Addr)) (fp : List Addr), LentX (X.blk s H scope (compEnvC scope cl C X.env) fp) W.cl vs →
      PE (X.blk s H scope (compEnvC scope cl C X.env) fp) elt (fun σ H Q => (∀ p ∈ names, ∀ v, σ[p.2]? = some (some v) → vs.lookup p.1 = some v) ∧ tE W noE fe σ H Q))
    (L : lendC X (own.map (·.2)) names = true := by kernel_rfl) (hN : X.N.Nodup := by exact of_decide_eq_true (by kernel_rfl)) (ok : BlkOk X.N X.env.scope scope own := by exact blkOk_by (by kernel_rfl)) (hv : ∀ i ∈ t.slots, i ∈ own.map (·.2) := by decide) (hs : ∀ x, foldedSetIterable iter X.env x = pure x := by (intro _; rfl)) :
    PE X (.ListComp elt [⟨tg, iter, ifs, 0⟩] scope pos) (tE W E (fComp (own.map (·.2)) fi t ft fe n)) := z_lcomp n C.hc hN hcl (lendC_ok L) hi ok hv hg ht he hs
theorem w_lent {x : Str} {i k : Nat} {F : Fn} {names : List (Str × Nat)} {vs : List (Str × V)} {f : Addr} (hi : i ≤ j) (hm : X.mg x = some (.ref f)) (kp : PySem.W.keepIn W.K (.ref f) = true) (L : LentX X W.cl vs)
    (D : ∀ base, Lent { W with cvl := cvOf vs } base → Def { W with cvl := cvOf vs } X.prog X.w X.mg base i x k F) (ha : PA X (e :: es) (tA W noE (fArgs fs)))
    (hg : Gl X x := by rfl) (hdb : (x == ("__debug__" : Str)) = false := by decide) (he : starEach (e :: es) X.env = (false, eval e X.env) :: starEach es X.env := by rfl) (hpl : (backTo pos (starEach es X.env)).any (·.1) = false := by rfl) :
    PE X (.Call (.Name x p) (e :: es) [] pos) (fun σ H Q => (∀ p ∈ names, ∀ v, σ[p.2]? = some (some v) → vs.lookup p.1 = some v) ∧ tE W noE (fLend k names F (fArgs fs)) σ H Q) :=
  z_lent C.hK (C.hr.mono hi) hm (by rw [C.hK]; exact kp) L D hg ha hdb he hpl
end
theorem lamOk_of {W : Wd} {P : Program} {w : World} {mg : Str → Option Value} {base : Heap} {j k : Nat} {N : List Str} {fe : FE} {L : LamD} (hfr : ∀ x ∈ bNs, mg x = none) (hL : W.lam k = L) (nd : N.Nodup) (sc : lamC N L.scope = true)
    (bind : ∀ clos pm c' ctv, bindArgs (PySem.W.kla_fn "<lambda>" L.qual L.params L.body L.scope clos pm (.ref c') ctv) ⟨[], []⟩ = pure [])
    (body : ∀ (f c' : Addr) (A : Around) (outer : List Env) (s : Shared) (H : Hp) (E : XK) [Ctx W (lcx P w W.K mg base N L W.cl f c' A outer s H E) j], PE (lcx P w W.K mg base N L W.cl f c' A outer s H E) L.body (tE W (fun _ => E) fe)) : LamOk W P w mg base j k N fe := by
  subst hL
  exact ⟨nd, lamC_ok sc, bind, fun f c' A outer s H E hr => @body f c' A outer s H E ⟨rfl, rfl, hr, hfr⟩⟩
end Z
set_option Elab.async false
set_option linter.all false
set_option autoImplicit false
set_option maxRecDepth 100000
/-! Z37: values frozen: a list of the store that is only read. -/
namespace Z
open PySem PySem.Spec PyProof.Rows L2
def frD : Nat → Sto → D → Option D
  | 0, _, _ => none
  | f + 1, S, d => match d with
    | .loc k => match S.get k with
      | some (.lst ds) => (ds.mapM (frD f S)).map .sq
      | _ => none
    | .tup xs => (xs.mapM (frD f S)).map .tup
    | .ktp xs => (xs.mapM (frD f S)).map .ktp
    | .sq xs => (xs.mapM (frD f S)).map .sq
    | .exc _ _ => none
    | d => some d
theorem relDs_mapM {W : Wd} {H : Hp} {m : Nat → Addr} {n n' : Nat} {g : D → Option D} (hg : ∀ d v d', RelD W H m n d v → g d = some d' → RelD W H m n' d' v) : ∀ {ds ds' : List D} {vs : List V}, RelDs W H m n ds vs → ds.mapM g = some ds' → RelDs W H m n' ds' vs
  | [], ds', vs, r, e => by
    rw [List.mapM_nil] at e
    cases e
    unfold RelDs at r ⊢
    exact r
  | d :: ds, ds', vs, r, e => by
    rw [List.mapM_cons] at e
    cases q : g d with
    | none => rw [q] at e; cases e
    | some d1 =>
      rw [q] at e
      cases q2 : ds.mapM g with
      | none => rw [q2] at e; cases e
      | some ds1 =>
        rw [q2] at e
        cases e
        unfold RelDs at r ⊢
        obtain ⟨u, us, e1, r1, r2⟩ := r
        exact ⟨u, us, e1, hg _ _ _ r1 q, relDs_mapM hg r2 q2⟩
theorem relD_fr {W : Wd} {H : Hp} {m : Nat → Addr} {S : Sto} (rs : RelS W H m S) : ∀ (f : Nat) (d : D) (v : V) (d' : D), RelD W H m S.n d v → frD f S d = some d' → RelD W H m 0 d' v
  | 0, _, _, _, _, e => by cases e
  | f + 1, d, v, d', r, e => by
    have off : ∀ a, Off m 0 a := fun a k hk => absurd hk (Nat.not_lt_zero _)
    have ih : ∀ {xs xs' : List D} {vs : List V}, RelDs W H m S.n xs vs → xs.mapM (frD f S) = some xs' → RelDs W H m 0 xs' vs := fun r e => relDs_mapM (fun d v d' => relD_fr rs f d v d') r e
    unfold frD at e
    cases d with
    | loc k =>
      dsimp only at e
      obtain ⟨_, ea⟩ := relD_locE r
      split at e
      · rename_i ds hk
        obtain ⟨vs, hm, rv⟩ := rs.lst hk
        obtain ⟨xs', q, rfl⟩ := Option.map_eq_some_iff.mp e
        unfold RelD
        exact ⟨_, vs, ea, .inl ⟨.inl hm, off _⟩, ih rv q⟩
      · cases e
    | tup xs =>
      obtain ⟨xs', q, rfl⟩ := Option.map_eq_some_iff.mp e
      unfold RelD at r ⊢
      obtain ⟨a, vs, e1, ⟨t1, _⟩, r2⟩ := r
      exact ⟨a, vs, e1, ⟨t1, off _⟩, ih r2 q⟩
    | ktp xs =>
      obtain ⟨xs', q, rfl⟩ := Option.map_eq_some_iff.mp e
      unfold RelD at r ⊢
      obtain ⟨a, vs, e1, t, r2⟩ := r
      exact ⟨a, vs, e1, t, ih r2 q⟩
    | sq xs =>
      obtain ⟨xs', q, rfl⟩ := Option.map_eq_some_iff.mp e
      unfold RelD at r ⊢
      obtain ⟨a, vs, e1, t, r2⟩ := r
      refine ⟨a, vs, e1, ?_, ih r2 q⟩
      rcases t with ⟨t, _⟩ | t
      · exact .inl ⟨t, off _⟩
      · exact .inr t
    | exc c x => cases e
    | non => cases e; unfold RelD at r ⊢; exact r
    | bl b => cases e; unfold RelD at r ⊢; exact r
    | int i => cases e; unfold RelD at r ⊢; exact r
    | str s => cases e; unfold RelD at r ⊢; exact r
    | lam k =>
      cases e
      unfold RelD at r ⊢
      obtain ⟨f1, c, e3, ⟨h1, _⟩, ⟨h3, _⟩⟩ := r
      exact ⟨f1, c, e3, ⟨h1, off _⟩, ⟨h3, off _⟩⟩
end Z
set_option Elab.async false
set_option linter.all false
set_option autoImplicit false
set_option maxRecDepth 100000
/-! Z38: what was tracked stays, when a callee ran over an empty store. -/
namespace Z
open PySem PySem.Spec PyProof.Rows L2
section
variable {W W2 : Wd} {H H' : Hp} {m m' : Nat → Addr} {n' : Nat} {S : Sto}
theorem obR_tbl {n : Nat} {b : Ob} {ps : Array Value} (t : ObR W H m n b (.tbl ps)) : False := by
  cases b with
  | hid => exact t
  | lst _ => obtain ⟨_, z, _⟩ := t; cases z
  | dk _ => obtain ⟨_, z, _⟩ := t; cases z
  | dt _ => obtain ⟨_, z, _⟩ := t; cases z
  | fz _ => obtain ⟨_, _, z, _⟩ := t; cases z
  | ins _ _ => obtain ⟨_, _, z, _⟩ := t; cases z
theorem ext_zero (e : Ext W2 H m 0 H' m' n') (n : Nat) : Ext W H m n H' m n :=
  ⟨⟨Nat.le_refl _, fun _ _ => rfl, fun b o h _ nt => e.keep b o h (fun k hk => absurd hk (Nat.not_lt_zero _)) nt, fun k h1 h2 => absurd h2 (Nat.not_lt.mpr h1), e.dom⟩, e.frz⟩
theorem relS_zero (e : Ext W2 H m 0 H' m' n') (r : RelS W H m S) (ht : LamX.Tabs W.T H') : RelS W H' m ⟨S.n, S.l, none⟩ where
  inj := r.inj
  at_ := fun k hk => by
    obtain ⟨b, ho, g, h, t⟩ := r.at_ k hk
    exact ⟨b, ho, g, e.keep _ _ h (fun j hj => absurd hj (Nat.not_lt_zero _)) (fun ps z => by rw [z] at t; exact obR_tbl t), ObR.ext (ext_zero e _) _ _ t⟩
  tabs := ht
  cells := fun _ z => by cases z
theorem relS_empty (r : RelS W H m S) {cv : Option (List (Str × D))} (hT : W2.T = W.T) (hc : ∀ vals, cv = some vals → ∀ p ∈ vals, ∃ u, W2.cvl p.1 = some u ∧ RelD W2 H m 0 p.2 u) : RelS W2 H m ⟨0, [], cv⟩ where
  inj := fun j k hj => absurd hj (Nat.not_lt_zero _)
  at_ := fun k hk => absurd hk (Nat.not_lt_zero _)
  tabs := by rw [hT]; exact r.tabs
  cells := hc
end
end Z
set_option Elab.async false
set_option linter.all false
set_option autoImplicit false
set_option maxRecDepth 100000
set_option maxHeartbeats 2000000
/-! Z39: the lent call over an empty store, its arguments frozen. -/
namespace Z
open PySem PySem.Spec PyProof.Rows L2
def atomD : D → Bool
  | .non => true
  | .bl _ => true
  | .int _ => true
  | .str _ => true
  | _ => false
def frVals (S : Sto) (vals : List (Str × D)) : Option (List (Str × D)) := vals.mapM fun p => match frD 9 S p.2 with
  | some d => some (p.1, d)
  | none => none
theorem frVals_ok {S : Sto} : ∀ {vals vals' : List (Str × D)}, frVals S vals = some vals' → ∀ q ∈ vals', ∃ d, (q.1, d) ∈ vals ∧ frD 9 S d = some q.2
  | [], vals', e, q, hq => by
    unfold frVals at e
    rw [List.mapM_nil] at e
    cases e
    cases hq
  | p :: vals, vals', e, q, hq => by
    unfold frVals at e
    rw [List.mapM_cons] at e
    cases q1 : frD 9 S p.2 with
    | none => rw [q1] at e; cases e
    | some d =>
      rw [q1] at e
      cases q2 : frVals S vals with
      | none =>
        unfold frVals at q2
        dsimp only at e
        rw [Option.bind_eq_bind, Option.bind_some, q2] at e
        cases e
      | some vs2 =>
        have q3 := q2
        unfold frVals at q3
        dsimp only at e
        rw [Option.bind_eq_bind, Option.bind_some, q3] at e
        cases e
        rcases List.mem_cons.mp hq with z | z
        · subst z
          exact ⟨p.2, List.mem_cons_self .., q1⟩
        · obtain ⟨d2, h1, h2⟩ := frVals_ok q2 q z
          exact ⟨d2, List.mem_cons_of_mem _ h1, h2⟩
/-- the callee's run over an empty store -/
def lend0 (k : Nat) (names : List (Str × Nat)) (F : Fn) (env : En) (ds : List D) (S1 : Sto) : R D := if ds.length = k then match valsOf names env with
  | some vals => match frVals S1 vals with
    | some vals' => match ds.mapM (frD 9 S1) with
      | some ds' => match F ds' ⟨0, [], some vals'⟩ with
        | .ok d _ => if atomD d = true then .ok d ⟨S1.n, S1.l, none⟩ else .no
        | _ => .no
      | none => .no
    | none => .no
  | none => .no else .no
theorem atom_rel {W W2 : Wd} {H : Hp} {m m2 : Nat → Addr} {n n2 : Nat} {d : D} {v : V} (h : atomD d = true) (r : RelD W H m n d v) : RelD W2 H m2 n2 d v := by
  cases d <;> try cases h
  all_goals
    unfold RelD at r ⊢
    exact r
def fLend0 (k : Nat) (names : List (Str × Nat)) (F : Fn) (fs : En → Sto → R (List D)) : FE := fun env S => (fs env S).bind (lend0 k names F env)
theorem z_lent0 {X : Cx} {W : Wd} {x : Str} {i k : Nat} {F : Fn} {names : List (Str × Nat)} {vs : List (Str × V)} {f : Addr} {e : Expr} {es : List Expr} {fs : List FE} {p pos : Pos} (hK : X.K = W.K) (hr : RoomG i X.A) (hm : X.mg x = some (.ref f)) (kp : PySem.W.keepIn X.K (.ref f) = true) (L : LentX X W.cl vs)
    (D : ∀ base, Lent { W with cvl := cvOf vs } base → Def { W with cvl := cvOf vs } X.prog X.w X.mg base i x k F)
    (hg : Gl X x) (ha : PA X (e :: es) (tA W noE (fArgs fs))) (hdb : (x == ("__debug__" : Str)) = false)
    (he : starEach (e :: es) X.env = (false, eval e X.env) :: starEach es X.env) (hpl : (backTo pos (starEach es X.env)).any (·.1) = false) :
    PE X (.Call (.Name x p) (e :: es) [] pos) (fun σ H Q => (∀ p ∈ names, ∀ v, σ[p.2]? = some (some v) → vs.lookup p.1 = some v) ∧ tE W noE (fLend0 k names F (fArgs fs)) σ H Q) := by
  refine ⟨fun pins s σ H Q I h => ?_⟩
  obtain ⟨hl, h⟩ := h
  have h := (tG.seq (rl := RelDs W) (g := lend0 k names F) h)
  refine wpAny_Call_Name_kw (ld_glob I hg hm ?_ hdb)
  refine PySem.W.callWith_K (h₀ := X.base) I.ok.mod.kin kp (thn (ha.run pos pins s σ H _ I h) fun us s1 ⟨vs', H1, I1, r1, q1⟩ => ⟨I1.kIn, ?_⟩) he hpl
  show wpAny _ _ (call (.ref f) us) _ _ _
  obtain ⟨env1, m1, S1, ds, k1, k2, k3, k4⟩ := q1
  unfold lend0 at k4
  by_cases hk : ds.length = k
  case neg =>
    rw [if_neg hk] at k4
    exact k4.elim
  rw [if_pos hk] at k4
  cases q : valsOf names env1 with
  | none => rw [q] at k4; exact k4.elim
  | some vals =>
  rw [q] at k4
  dsimp only at k4
  obtain ⟨base, e0, B⟩ := lentBase I1 L
  obtain ⟨f', fd, ps, F1, hm', kp', hb⟩ := (D base B).ok
  have ef : f' = f := by
    rw [hm] at hm'
    injection hm' with z
    injection z with z
    exact z.symm
  subst ef
  rw [hK] at e0
  have t : To W { W with cvl := cvOf vs } true := ⟨rfl, rfl, rfl, fun _ => ⟨rfl, rfl⟩⟩
  have t2 : To { W with cvl := cvOf vs } W true := ⟨rfl, rfl, rfl, fun _ => ⟨rfl, rfl⟩⟩
  have len : vs'.length = k := by
    rw [← hk]
    exact k3.len
  cases qv : frVals S1 vals with
  | none => rw [qv] at k4; exact k4.elim
  | some vals' =>
  rw [qv] at k4
  dsimp only at k4
  cases qd : ds.mapM (frD 9 S1) with
  | none => rw [qd] at k4; exact k4.elim
  | some ds' =>
  rw [qd] at k4
  dsimp only at k4
  have fr0 : ∀ d v d', RelD W H1 m1 S1.n d v → frD 9 S1 d = some d' → RelD { W with cvl := cvOf vs } H1 m1 0 d' v := fun d v d' r e => by
    have z := relD_fr k2 9 d v d' r e
    exact relD_to t (Nat.le_refl _) _ _ (relD_okd _ _ z) z
  have sp : spF { W with cvl := cvOf vs } k F vs' H1 Q (noE σ) := by
    refine ⟨m1, ⟨0, [], some vals'⟩, ds', len, relS_empty k2 rfl fun vals2 ev p hp => ?_, (fun z => relDs_to t (Nat.le_refl _) _ _ (relDs_okd _ _ z) z) (relDs_mapM (fun d v d' => relD_fr k2 9 d v d') k3 qd), ?_⟩
    · cases ev
      obtain ⟨d, h1, h2⟩ := frVals_ok qv p hp
      obtain ⟨i, v, h3, h4, h5⟩ := valsOf_ok k1 q (p.1, d) h1
      exact ⟨v, hl _ h3 v h4, fr0 _ _ _ h5 h2⟩
    · cases r : F ds' ⟨0, [], some vals'⟩ with
      | no => rw [r] at k4; exact k4.elim
      | exc c x S2 => rw [r] at k4; exact k4.elim
      | ok d S2 =>
        rw [r] at k4
        dsimp only at k4
        by_cases ha : atomD d = true
        · rw [if_pos ha] at k4
          exact fun H' m' v ext rs rd => k4 H' m1 v (ext_zero ext _) (relS_zero ext k2 rs.tabs) (atom_rel ha rd)
        · rw [if_neg ha] at k4
          exact k4.elim
  have hl : us.length = ps.length := by rw [← r1.length]; exact F1.len _ _ _ _ sp
  have b := hb s1 us (by rw [← hK]; exact I1.kIn) (by rw [List.append_nil]; exact hl)
  rw [List.append_nil] at b
  refine wpAny_call (codeAny_mono (F1.run X.A X.stack s1 H1 ⟨us, []⟩ us vs' Q (noE σ) hr e0 b r1 sp) fun r s' hq => ?_)
  cases r with
  | error e => exact pas_noE (X := X) σ pins H1 s1 e s' I1 hq
  | ok fl =>
    cases fl with
    | ret u => exact I1.after hq
    | next => exact False.elim hq
    | brk => exact False.elim hq
    | cont => exact False.elim hq
section
variable {W : Wd} {X : Cx} {j : Nat} [C : Ctx W X j] {pos p : Pos} {e : Expr} {es : List Expr} {fs : List FE}
include C
theorem w_lent0 {x : Str} {i k : Nat} {F : Fn} {names : List (Str × Nat)} {vs : List (Str × V)} {f : Addr} (hi : i ≤ j) (hm : X.mg x = some (.ref f)) (kp : PySem.W.keepIn W.K (.ref f) = true) (L : LentX X W.cl vs)
    (D : ∀ base, Lent { W with cvl := cvOf vs } base → Def { W with cvl := cvOf vs } X.prog X.w X.mg base i x k F) (ha : PA X (e :: es) (tA W noE (fArgs fs)))
    (hg : Gl X x := by rfl) (hdb : (x == ("__debug__" : Str)) = false := by decide) (he : starEach (e :: es) X.env = (false, eval e X.env) :: starEach es X.env := by rfl) (hpl : (backTo pos (starEach es X.env)).any (·.1) = false := by rfl) :
    PE X (.Call (.Name x p) (e :: es) [] pos) (fun σ H Q => (∀ p ∈ names, ∀ v, σ[p.2]? = some (some v) → vs.lookup p.1 = some v) ∧ tE W noE (fLend0 k names F (fArgs fs)) σ H Q) :=
  z_lent0 C.hK (C.hr.mono hi) hm (by rw [C.hK]; exact kp) L D hg ha hdb he hpl
end
end Z
set_option Elab.async false
set_option linter.all false
set_option autoImplicit false
set_option maxRecDepth 100000
set_option maxHeartbeats 2000000
/-! Z40: what an expression leaves behind is dropped from the store; its lists are frozen. -/
namespace Z
open PySem PySem.Spec PyProof.Rows L2

/-- a value at n places: the lists of the places above are frozen -/
def gcD (n : Nat) : Nat → Sto → D → Option D
  | 0, _, _ => none
  | f + 1, S, d => match d with
    | .loc k => if k < n then some (.loc k) else match S.get k with
      | some (.lst ds) => (ds.mapM (gcD n f S)).map .sq
      | _ => none
    | .tup xs => (xs.mapM (gcD n f S)).map .tup
    | .ktp xs => (xs.mapM (gcD n f S)).map .ktp
    | .sq xs => (xs.mapM (gcD n f S)).map .sq
    | .exc c v => (gcD n f S v).map (.exc c)
    | d => some d
section
variable {W : Wd} {H : Hp} {m : Nat → Addr} {n : Nat} {S : Sto}
theorem relD_gc (rs : RelS W H m S) (hn : n ≤ S.n) : ∀ (f : Nat) (d : D) (v : V) (d' : D), RelD W H m S.n d v → gcD n f S d = some d' → RelD W H m n d' v
  | 0, _, _, _, _, e => by cases e
  | f + 1, d, v, d', r, e => by
    have ih : ∀ {xs xs' : List D} {vs : List V}, RelDs W H m S.n xs vs → xs.mapM (gcD n f S) = some xs' → RelDs W H m n xs' vs := fun r e => relDs_mapM (fun d v d' => relD_gc rs hn f d v d') r e
    unfold gcD at e
    cases d with
    | loc k =>
      dsimp only at e
      obtain ⟨hk, ea⟩ := relD_locE r
      by_cases hkn : k < n
      · rw [if_pos hkn] at e
        cases e
        unfold RelD
        exact ⟨hkn, ea⟩
      · rw [if_neg hkn] at e
        split at e
        · rename_i ds hg
          obtain ⟨vs, hm, rv⟩ := rs.lst hg
          obtain ⟨xs', q, rfl⟩ := Option.map_eq_some_iff.mp e
          unfold RelD
          refine ⟨_, vs, ea, .inl ⟨.inl hm, fun j hj z => ?_⟩, ih rv q⟩
          have := rs.inj j k (Nat.lt_of_lt_of_le hj hn) (Sto.get_lt hg) z
          omega
        · cases e
    | tup xs =>
      obtain ⟨xs', q, rfl⟩ := Option.map_eq_some_iff.mp e
      unfold RelD at r ⊢
      obtain ⟨a, vs, e1, ⟨t1, t2⟩, r2⟩ := r
      exact ⟨a, vs, e1, ⟨t1, t2.le hn⟩, ih r2 q⟩
    | ktp xs =>
      obtain ⟨xs', q, rfl⟩ := Option.map_eq_some_iff.mp e
      unfold RelD at r ⊢
      obtain ⟨a, vs, e1, t, r2⟩ := r
      exact ⟨a, vs, e1, t, ih r2 q⟩
    | sq xs =>
      obtain ⟨xs', q, rfl⟩ := Option.map_eq_some_iff.mp e
      unfold RelD at r ⊢
      obtain ⟨a, vs, e1, t, r2⟩ := r
      refine ⟨a, vs, e1, ?_, ih r2 q⟩
      rcases t with ⟨t, h⟩ | t
      · exact .inl ⟨t, h.le hn⟩
      · exact .inr t
    | exc c x =>
      obtain ⟨x', q, rfl⟩ := Option.map_eq_some_iff.mp e
      unfold RelD at r ⊢
      obtain ⟨a, d, u, e1, ⟨h1, h2⟩, ⟨h3, h4⟩, r2⟩ := r
      exact ⟨a, d, u, e1, ⟨h1, h2.le hn⟩, ⟨h3, h4.le hn⟩, relD_gc rs hn f x u x' r2 q⟩
    | non => cases e; unfold RelD at r ⊢; exact r
    | bl b => cases e; unfold RelD at r ⊢; exact r
    | int i => cases e; unfold RelD at r ⊢; exact r
    | str s => cases e; unfold RelD at r ⊢; exact r
    | lam k =>
      cases e
      unfold RelD at r ⊢
      obtain ⟨f1, c, e3, ⟨h1, h2⟩, ⟨h3, h4⟩⟩ := r
      exact ⟨f1, c, e3, ⟨h1, h2.le hn⟩, ⟨h3, h4.le hn⟩⟩
/-- the lent cells stand at n places -/
def okC (n : Nat) (S : Sto) : Bool := match S.cv with
  | none => true
  | some vals => vals.all fun p => okD true n p.2
def Sto.gc (S : Sto) (n : Nat) : Sto := ⟨n, S.l.drop (S.n - n), S.cv⟩
theorem relS_gc (r : RelS W H m S) (ok : okS true n S = true) (okc : okC n S = true) : RelS W H m (S.gc n) := by
  have t : To W W true := ⟨rfl, rfl, rfl, fun _ => ⟨rfl, rfl⟩⟩
  have hn : n ≤ S.n := by
    unfold okS at ok
    rw [Bool.and_eq_true] at ok
    exact of_decide_eq_true ok.1
  have z := relS_cut t r ok
  refine ⟨z.inj, z.at_, z.tabs, fun vals e p hp => ?_⟩
  have e : S.cv = some vals := e
  obtain ⟨u, h1, h2⟩ := r.cells vals e p hp
  refine ⟨u, h1, relD_to t hn _ _ ?_ h2⟩
  unfold okC at okc
  rw [e] at okc
  exact List.all_eq_true.mp okc p hp
end
def gcR (n : Nat) : R D → R D
  | .ok d S => match gcD n 9 S d with
    | some d' => if (okS true n S && okC n S) = true then .ok d' (S.gc n) else .no
    | none => .no
  | .exc c v S => match gcD n 9 S v with
    | some v' => if (okS true n S && okC n S) = true then .exc c v' (S.gc n) else .no
    | none => .no
  | .no => .no
def fGC (f : FE) : FE := fun env S => gcR S.n (f env S)
theorem postG_gc {W : Wd} {E : XK} {H : Hp} {m : Nat → Addr} {n : Nat} {r : R D} {Q : VK} (h : PostG W (RelD W) E H m n (gcR n r) Q) : PostG W (RelD W) E H m n r Q := by
  cases r with
  | no => exact h
  | ok d S =>
    unfold gcR at h
    dsimp only at h
    cases q : gcD n 9 S d with
    | none => rw [q] at h; exact h.elim
    | some d' =>
      rw [q] at h
      dsimp only at h
      by_cases ok : (okS true n S && okC n S) = true
      · rw [if_pos ok] at h
        rw [Bool.and_eq_true] at ok
        have hn : n ≤ S.n := by
          have o := ok.1
          unfold okS at o
          rw [Bool.and_eq_true] at o
          exact of_decide_eq_true o.1
        exact fun H' m' v e rs rd => h H' m' v e.cut (relS_gc rs ok.1 ok.2) (relD_gc rs hn 9 d v d' rd q)
      · rw [if_neg ok] at h
        exact h.elim
  | exc c x S =>
    unfold gcR at h
    dsimp only at h
    cases q : gcD n 9 S x with
    | none => rw [q] at h; exact h.elim
    | some d' =>
      rw [q] at h
      dsimp only at h
      by_cases ok : (okS true n S && okC n S) = true
      · rw [if_pos ok] at h
        rw [Bool.and_eq_true] at ok
        have hn : n ≤ S.n := by
          have o := ok.1
          unfold okS at o
          rw [Bool.and_eq_true] at o
          exact of_decide_eq_true o.1
        exact fun H' m' d u e rs h1 h2 rd => h H' m' d u e.cut (relS_gc rs ok.1 ok.2) h1 (h2.le hn) (relD_gc rs hn 9 x u d' rd q)
      · rw [if_neg ok] at h
        exact h.elim
theorem w_gc {W : Wd} {X : Cx} {E : St → XK} {e : Expr} {f : FE} (h : PE X e (tE W E f)) : PE X e (tE W E (fGC f)) := pe_imp h fun σ H Q q => by
  obtain ⟨env, m, S, h1, h2, h3⟩ := q
  exact ⟨env, m, S, h1, h2, postG_gc h3⟩

/-! ### a call over one object alone -/
/-! a value of no place: texts, numbers, tuples of them -/
mutual
def flatD : D → Bool
  | .non => true
  | .bl _ => true
  | .int _ => true
  | .str _ => true
  | .tup xs => flatDs xs
  | _ => false
def flatDs : List D → Bool
  | [] => true
  | d :: ds => flatD d && flatDs ds
end
/-- a list of flat values -/
def flatO : Ob → Bool
  | .lst ds => flatDs ds
  | _ => false
mutual
theorem flat_rel {W : Wd} {H : Hp} {m m' : Nat → Addr} {n n' : Nat} (ht : ∀ a vs, H a = some (.tup vs) → Off m' n' a) : ∀ (d : D) (v : V), flatD d = true → RelD W H m n d v → RelD W H m' n' d v
  | .non, v, _, r => by unfold RelD at r ⊢; exact r
  | .bl b, v, _, r => by unfold RelD at r ⊢; exact r
  | .int b, v, _, r => by unfold RelD at r ⊢; exact r
  | .str b, v, _, r => by unfold RelD at r ⊢; exact r
  | .tup xs, v, h, r => by
    unfold RelD at r ⊢
    obtain ⟨a, vs, e, ⟨t, _⟩, r⟩ := r
    unfold flatD at h
    exact ⟨a, vs, e, ⟨t, ht a vs t⟩, flats_rel ht xs vs h r⟩
theorem flats_rel {W : Wd} {H : Hp} {m m' : Nat → Addr} {n n' : Nat} (ht : ∀ a vs, H a = some (.tup vs) → Off m' n' a) : ∀ (ds : List D) (vs : List V), flatDs ds = true → RelDs W H m n ds vs → RelDs W H m' n' ds vs
  | [], vs, _, r => by unfold RelDs at r ⊢; exact r
  | d :: ds, vs, h, r => by
    unfold flatDs at h
    rw [Bool.and_eq_true] at h
    unfold RelDs at r ⊢
    obtain ⟨u, us, e, r1, r2⟩ := r
    exact ⟨u, us, e, flat_rel ht d u h.1 r1, flats_rel ht ds us h.2 r2⟩
end
theorem off_tupS {W : Wd} {H : Hp} {m : Nat → Addr} {S : Sto} (r : RelS W H m S) (a : Addr) (vs : List V) (h : H a = some (.tup vs)) : Off m S.n a := fun k hk z => by
  obtain ⟨b, ho, g, hh, t⟩ := r.at_ k hk
  rw [z, h] at hh
  cases hh
  cases b with
  | hid => exact t
  | lst _ => obtain ⟨_, z, _⟩ := t; cases z
  | dk _ => obtain ⟨_, z, _⟩ := t; cases z
  | dt _ => obtain ⟨_, z, _⟩ := t; cases z
  | fz _ => obtain ⟨_, _, z, _⟩ := t; cases z
  | ins _ _ => obtain ⟨_, _, z, _⟩ := t; cases z
end Z
set_option Elab.async false
set_option linter.all false
set_option autoImplicit false
set_option maxRecDepth 100000
set_option maxHeartbeats 2000000
/-! Z41: a call over one object alone. -/
namespace Z
open PySem PySem.Spec PyProof.Rows L2

section
variable {W : Wd} {H H' : Hp} {m m2 : Nat → Addr} {n p : Nat} {S S2 : Sto}
mutual
theorem relD_obj (hp : p < n) : ∀ (d : D) (v : V), okD true 0 d = true → RelD W H m n d v → RelD W H (fun _ => m p) 1 d v
  | .non, v, _, h => by unfold RelD at h ⊢; exact h
  | .bl b, v, _, h => by unfold RelD at h ⊢; exact h
  | .int i, v, _, h => by unfold RelD at h ⊢; exact h
  | .str x, v, _, h => by unfold RelD at h ⊢; exact h
  | .tup ds, v, o, h => by
    unfold RelD at h ⊢
    unfold okD at o
    obtain ⟨a, vs, e1, ⟨t1, t2⟩, r⟩ := h
    exact ⟨a, vs, e1, ⟨t1, fun _ _ => t2 p hp⟩, relDs_obj hp ds vs o r⟩
  | .ktp ds, v, o, h => by
    unfold RelD at h ⊢
    unfold okD at o
    obtain ⟨a, vs, e1, q, r⟩ := h
    exact ⟨a, vs, e1, q, relDs_obj hp ds vs o r⟩
  | .loc k, v, o, h => by
    unfold okD at o
    exact absurd (of_decide_eq_true o) (Nat.not_lt_zero _)
  | .exc c x, v, o, h => by
    unfold RelD at h ⊢
    unfold okD at o
    obtain ⟨a, d, u, e1, ⟨h1, h2⟩, ⟨h3, h4⟩, r⟩ := h
    exact ⟨a, d, u, e1, ⟨h1, fun _ _ => h2 p hp⟩, ⟨h3, fun _ _ => h4 p hp⟩, relD_obj hp x u o r⟩
  | .sq ds, v, o, h => by
    unfold RelD at h ⊢
    unfold okD at o
    obtain ⟨a, vs, e1, q, r⟩ := h
    refine ⟨a, vs, e1, ?_, relDs_obj hp ds vs o r⟩
    rcases q with ⟨q, f⟩ | q
    · exact .inl ⟨q, fun _ _ => f p hp⟩
    · exact .inr q
  | .lam k, v, o, h => by
    unfold RelD at h ⊢
    obtain ⟨f, c, e3, ⟨h1, h2⟩, ⟨h3, h4⟩⟩ := h
    exact ⟨f, c, e3, ⟨h1, fun _ _ => h2 p hp⟩, ⟨h3, fun _ _ => h4 p hp⟩⟩
theorem relDs_obj (hp : p < n) : ∀ (ds : List D) (vs : List V), okDs true 0 ds = true → RelDs W H m n ds vs → RelDs W H (fun _ => m p) 1 ds vs
  | [], vs, _, h => by unfold RelDs at h ⊢; exact h
  | d :: ds, vs, o, h => by
    unfold RelDs at h ⊢
    unfold okDs at o
    rw [Bool.and_eq_true] at o
    obtain ⟨u, us, e1, r, rs⟩ := h
    exact ⟨u, us, e1, relD_obj hp d u o.1 r, relDs_obj hp ds us o.2 rs⟩
end
/-- the arguments over one object alone: its place is 0 -/
def repP (p : Nat) : List D → Option (List D)
  | [] => some []
  | d :: ds => match (match d with
      | .loc k => if k = p then some (.loc 0) else none
      | d => if okD true 0 d = true then some d else none), repP p ds with
    | some d', some ds' => some (d' :: ds')
    | _, _ => none
theorem repP_rel (hp : p < n) : ∀ {ds ds' : List D} {vs : List V}, repP p ds = some ds' → RelDs W H m n ds vs → RelDs W H (fun _ => m p) 1 ds' vs
  | [], ds', vs, e, r => by
    cases e
    unfold RelDs at r ⊢
    exact r
  | d :: ds, ds', vs, e, r => by
    unfold repP at e
    split at e
    · rename_i d1 ds1 q1 q2
      cases e
      unfold RelDs at r ⊢
      obtain ⟨u, us, e1, r1, r2⟩ := r
      refine ⟨u, us, e1, ?_, repP_rel hp q2 r2⟩
      split at q1
      · rename_i k
        split at q1
        · rename_i ek
          cases q1
          subst ek
          unfold RelD at r1 ⊢
          exact ⟨Nat.zero_lt_one, r1.2⟩
        · cases q1
      · split at q1
        · rename_i ok
          cases q1
          exact relD_obj hp _ _ ok r1
        · cases q1
    · cases e
theorem repP_len : ∀ {ds ds' : List D}, repP p ds = some ds' → ds'.length = ds.length
  | [], ds', e => by cases e; rfl
  | d :: ds, ds', e => by
    unfold repP at e
    split at e
    · rename_i d1 ds1 q1 q2
      cases e
      rw [List.length_cons, List.length_cons, repP_len q2]
    · cases e
/-- what the callee gives: flat, or a new list of flat values, frozen -/
def resP (S2 : Sto) (d : D) : Option D := if flatD d = true then some d else match d with
  | .loc k => if 1 ≤ k then (match S2.get k with
    | some (.lst ds) => if flatDs ds = true then some (.sq ds) else none
    | _ => none) else none
  | _ => none
/-- the place that stands among the arguments -/
def placeOf : List D → Option Nat
  | [] => none
  | .loc k :: _ => some k
  | _ :: ds => placeOf ds
def callP (F : Fn) (ds : List D) (S1 : Sto) : R D := match placeOf ds with
  | some p => match S1.get p, repP p ds with
    | some o, some ds' => if flatO o = true then (match F ds' ⟨1, [o], none⟩ with
      | .ok d S2 => match resP S2 d, S2.get 0 with
        | some d', some o' => if flatO o' = true then .ok d' (S1.set p o') else .no
        | _, _ => .no
      | _ => .no) else .no
    | _, _ => .no
  | none => .no
def fCallP (F : Fn) (fs : En → Sto → R (List D)) : FE := fun env S => (fs env S).bind (callP F)
theorem flatO_rel {o : Ob} {ho : HO} {m' : Nat → Addr} {n' : Nat} (ht : ∀ a vs, H a = some (.tup vs) → Off m' n' a) (h : flatO o = true) (r : ObR W H m n o ho) : ObR W H m' n' o ho := by
  cases o <;> try cases h
  obtain ⟨vs, e, r⟩ := r
  exact ⟨vs, e, flats_rel ht _ _ h r⟩
theorem flatO_wr {o : Ob} {ho : HO} (h : flatO o = true) (r : ObR W H m n o ho) : ∃ vs, ho = .lst vs := by
  cases o <;> try cases h
  obtain ⟨vs, e, r⟩ := r
  exact ⟨vs, e⟩
theorem relS_one {o : Ob} (rs : RelS W H m S) (hg : S.get p = some o) (hf : flatO o = true) : RelS W H (fun _ => m p) ⟨1, [o], none⟩ where
  inj := fun j k hj hk _ => by
    have hj : j < 1 := hj
    have hk : k < 1 := hk
    omega
  at_ := fun k hk => by
    have hk : k < 1 := hk
    have ek : k = 0 := by omega
    subst ek
    obtain ⟨b, ho, g, h, t⟩ := rs.at_ p (Sto.get_lt hg)
    rw [hg] at g
    cases g
    refine ⟨o, ho, rfl, h, flatO_rel (fun a vs ha => fun k hk z => ?_) hf t⟩
    exact off_tupS rs a vs ha p (Sto.get_lt hg) z
  tabs := rs.tabs
  cells := fun _ z => by cases z
/-- behind the callee: the caller's store, the one object new -/
theorem ext_back (rs : RelS W H m S) (hp : p < S.n) (e : Ext W H (fun _ => m p) 1 H' m2 n) : Ext W H m S.n H' m S.n :=
  ⟨⟨Nat.le_refl _, fun _ _ => rfl, fun b o h f nt => e.keep b o h (fun k hk => f p hp) nt, fun k h1 h2 => absurd h2 (Nat.not_lt.mpr h1), e.dom⟩, e.frz⟩
theorem relS_back {o o' : Ob} (rs : RelS W H m S) (hg : S.get p = some o) (e : Ext W H (fun _ => m p) 1 H' m2 S2.n) (r2 : RelS W H' m2 S2) (hg2 : S2.get 0 = some o') (hf : flatO o' = true) : RelS W H' m (S.set p o') := by
  have hp := Sto.get_lt hg
  have ex := ext_back rs hp e
  have at0 : ∃ vs, H' (m p) = some (.lst vs) ∧ ObR W H' m2 S2.n o' (.lst vs) := by
    obtain ⟨b, ho, g, h, t⟩ := r2.at_ 0 (Sto.get_lt hg2)
    rw [hg2] at g
    cases g
    obtain ⟨vs, ev⟩ := flatO_wr hf t
    rw [ev] at h t
    rw [e.same 0 Nat.zero_lt_one] at h
    exact ⟨vs, h, t⟩
  have other : ∀ j, j < S.n → j ≠ p → ∃ b ho, S.get j = some b ∧ H' (m j) = some ho ∧ ObR W H' m S.n b ho := fun j hj hne => by
    obtain ⟨b, ho, g, h, t⟩ := rs.at_ j hj
    refine ⟨b, ho, g, e.keep _ _ h (fun k hk z => hne (rs.inj j p hj hp z.symm)) (fun ps z => by rw [z] at t; exact obR_tbl t), ObR.ext ex _ _ t⟩
  have ht : ∀ a vs, H' a = some (.tup vs) → Off m S.n a := fun a vs ha k hk z => by
    by_cases ek : k = p
    · subst ek
      obtain ⟨us, h, _⟩ := at0
      rw [z, ha] at h
      cases h
    · obtain ⟨b, ho, g, h, t⟩ := other k hk ek
      rw [z, ha] at h
      cases h
      cases b with
      | hid => exact t
      | lst _ => obtain ⟨_, z, _⟩ := t; cases z
      | dk _ => obtain ⟨_, z, _⟩ := t; cases z
      | dt _ => obtain ⟨_, z, _⟩ := t; cases z
      | fz _ => obtain ⟨_, _, z, _⟩ := t; cases z
      | ins _ _ => obtain ⟨_, _, z, _⟩ := t; cases z
  refine ⟨rs.inj, fun j hj => ?_, r2.tabs, fun vals hv => cells_ext0 ex.toExt0 (rs.cells vals hv)⟩
  have hj : j < S.n := hj
  by_cases ej : j = p
  · subst ej
    obtain ⟨vs, h, t⟩ := at0
    exact ⟨o', .lst vs, Sto.get_set_eq hg, h, flatO_rel ht hf t⟩
  · obtain ⟨b, ho, g, h, t⟩ := other j hj ej
    exact ⟨b, ho, by rw [Sto.get_set_ne hj hp ej]; exact g, h, t⟩
theorem callP_post {F : Fn} {E0 : XK} {Q : VK} {ds : List D} {vs : List V} {k : Nat} (hl : ds.length = k) (rs : RelS W H m S) (rd : RelDs W H m S.n ds vs) (h : PostG W (RelD W) E0 H m S.n (callP F ds S) Q) : spF W k F vs H Q E0 := by
  unfold callP at h
  split at h
  · rename_i p hpl
    split at h
    · rename_i o ds' hg hr
      split at h
      · rename_i hf
        have hp := Sto.get_lt hg
        refine ⟨fun _ => m p, ⟨1, [o], none⟩, ds', by rw [rd.len, hl], relS_one rs hg hf, repP_rel hp hr rd, ?_⟩
        cases r : F ds' ⟨1, [o], none⟩ with
        | no => rw [r] at h; exact h.elim
        | exc c x S2 => rw [r] at h; exact h.elim
        | ok d S2 =>
          rw [r] at h
          dsimp only at h
          split at h
          · rename_i d' o' hd ho
            split at h
            · rename_i hf2
              intro H' m2 v e r2 rv
              have rb := relS_back rs hg e r2 ho hf2
              refine h H' m v (ext_back rs hp e) rb ?_
              unfold resP at hd
              split at hd
              · rename_i hfl
                cases hd
                exact flat_rel (off_tupS rb) _ _ hfl rv
              · split at hd
                · rename_i j _
                  split at hd
                  · rename_i hj
                    split at hd
                    · rename_i es he
                      split at hd
                      · rename_i hfe
                        cases hd
                        obtain ⟨_, ev⟩ := relD_locE rv
                        obtain ⟨us, hm, ru⟩ := r2.lst he
                        unfold RelD
                        refine ⟨_, us, ev, .inl ⟨.inl hm, fun i hi z => ?_⟩, flats_rel (off_tupS rb) _ _ hfe ru⟩
                        have q := e.fresh j hj (Sto.get_lt he)
                        obtain ⟨b, ho2, g2, h2, _⟩ := rs.at_ i hi
                        rw [z, q] at h2
                        cases h2
                      · cases hd
                    · cases hd
                  · cases hd
                · cases hd
            · exact h.elim
          · exact h.elim
      · exact h.elim
    · exact h.elim
  · exact h.elim
theorem fArgs_len : ∀ (fs : List (En → Sto → R D)) (env : En) (S : Sto) (ds : List D) (S' : Sto), fArgs fs env S = .ok ds S' → ds.length = fs.length := by
  intro fs env
  induction fs with
  | nil =>
    intro S ds S' e
    cases e
    rfl
  | cons f fs ih =>
    intro S ds S' e
    have e : ((f env S).bind fun d S1 => (fArgs fs env S1).bind fun ds S2 => R.ok (d :: ds) S2) = .ok ds S' := e
    cases q : f env S with
    | ok d S1 =>
      rw [q] at e
      have e : ((fArgs fs env S1).bind fun ds S2 => R.ok (d :: ds) S2) = .ok ds S' := e
      cases q2 : fArgs fs env S1 with
      | ok ds2 S2 =>
        rw [q2] at e
        cases e
        rw [List.length_cons, List.length_cons, ih _ _ _ q2]
      | exc c x S2 => rw [q2] at e; cases e
      | no => rw [q2] at e; cases e
    | exc c x S2 => rw [q] at e; cases e
    | no => rw [q] at e; cases e
theorem fCallP_read {E : St → XK} {F : Fn} {k : Nat} {fs : List (En → Sto → R D)} (hk : fs.length = k) {σ : St} {Q : VK} (h : tE W E (fCallP F (fArgs fs)) σ H Q) : tCallS (spF W k F) E (tA W E (fArgs fs)) σ H Q := by
  obtain ⟨env, m, S, h1, h2, h3⟩ := h
  refine ⟨env, m, S, h1, h2, ?_⟩
  have h3 : PostG W (RelD W) (E σ) H m S.n ((fArgs fs env S).bind (callP F)) Q := h3
  cases q : fArgs fs env S with
  | ok ds S' =>
    rw [q] at h3
    exact fun H2 m2 vs e2 rs r => callP_post (by rw [fArgs_len _ _ _ _ _ q, hk]) rs r (PostG.ext e2 h3)
  | exc c x S' => rw [q] at h3; exact h3
  | no => rw [q] at h3; exact h3
end
theorem z_callP {X : Cx} {W : Wd} {E : St → XK} {pos : Pos} {x : Str} {p : Pos} {e : Expr} {es : List Expr} {k : Nat} {F : Fn} {fs : List (En → Sto → R D)} (C : Cal W X x k F) (hk : fs.length = k) (hg : Gl X x) (hx : ∀ σ, PassesAt (L2.CX X.prog X.w) X σ (E σ)) (ha : PA X (e :: es) (tA W E (fArgs fs)))
    (hdb : (x == ("__debug__" : Str)) = false) (he : starEach (e :: es) X.env = (false, eval e X.env) :: starEach es X.env) (hpl : (backTo pos (starEach es X.env)).any (·.1) = false) : PE X (.Call (.Name x p) (e :: es) [] pos) (tE W E (fCallP F (fArgs fs))) := by
  obtain ⟨j, f, fd, ps, F0, hr, hm, hk2, hb⟩ := C.ok
  refine ⟨fun pins s σ H Q I h => ?_⟩
  refine wpAny_Call_Name_kw (ld_glob I hg hm ?_ hdb)
  exact PySem.W.callWith_K (h₀ := X.base) I.ok.mod.kin hk2 (thn (ha.run pos pins s σ H _ I (fCallP_read hk h)) fun us s1 ⟨vs, H1, I1, r, q⟩ => ⟨I1.kIn, run_fnZ F0 hr hb (hx σ) I1 r q⟩) he hpl
section
variable {W : Wd} {X : Cx} {j : Nat} [C : Ctx W X j] {E : St → XK} {pos p : Pos} {e : Expr} {es : List Expr} {fs : List FE}
include C
theorem w_callP {x : Str} {i k : Nat} {F : Fn} [Q : Pas X E] (D : Def W X.prog X.w X.mg X.base i x k F) (hi : i ≤ j) (ha : PA X (e :: es) (tA W E (fArgs fs))) (hk : fs.length = k := by rfl) (hg : Gl X x := by rfl) (hdb : (x == ("__debug__" : Str)) = false := by decide)
    (he : starEach (e :: es) X.env = (false, eval e X.env) :: starEach es X.env := by rfl) (hpl : (backTo pos (starEach es X.env)).any (·.1) = false := by rfl) : PE X (.Call (.Name x p) (e :: es) [] pos) (tE W E (fCallP F (fArgs fs))) :=
  z_callP ((D.mono hi).cal C.hK C.hr) hk hg Q.p ha hdb he hpl
end
end Z
set_option Elab.async false
set_option linter.all false
set_option autoImplicit false
set_option maxRecDepth 100000
set_option maxHeartbeats 2000000
/-! Z42: the plain side: stores that grow, a list of looks. -/
namespace Z
open PySem PySem.Spec PyProof.Rows L2

/-- no place, no exception: frozen already -/
def nlD : Nat → D → Bool
  | 0, _ => false
  | f + 1, d => match d with
    | .loc _ => false
    | .exc _ _ => false
    | .tup xs => xs.all (nlD f)
    | .ktp xs => xs.all (nlD f)
    | .sq xs => xs.all (nlD f)
    | _ => true
theorem mapM_id {α : Type} {g : α → Option α} : ∀ {xs : List α}, (∀ x ∈ xs, g x = some x) → xs.mapM g = some xs
  | [], _ => rfl
  | x :: xs, h => by
    rw [List.mapM_cons, h x (List.mem_cons_self ..), mapM_id fun y hy => h y (List.mem_cons_of_mem _ hy)]
    rfl
theorem frD_id {S : Sto} : ∀ {f : Nat} {d : D}, nlD f d = true → frD f S d = some d
  | 0, _, h => by cases h
  | f + 1, d, h => by
    unfold nlD at h
    unfold frD
    cases d with
    | loc _ => cases h
    | exc _ _ => cases h
    | tup xs => show (xs.mapM (frD f S)).map _ = _; rw [show xs.mapM (frD f S) = some xs from mapM_id fun x hx => frD_id (List.all_eq_true.mp h x hx)]; rfl
    | ktp xs => show (xs.mapM (frD f S)).map _ = _; rw [show xs.mapM (frD f S) = some xs from mapM_id fun x hx => frD_id (List.all_eq_true.mp h x hx)]; rfl
    | sq xs => show (xs.mapM (frD f S)).map _ = _; rw [show xs.mapM (frD f S) = some xs from mapM_id fun x hx => frD_id (List.all_eq_true.mp h x hx)]; rfl
    | _ => rfl
theorem frVals_id {S : Sto} {vals : List (Str × D)} (h : ∀ p ∈ vals, nlD 9 p.2 = true) : frVals S vals = some vals := mapM_id fun p hp => by rw [frD_id (h p hp)]
theorem lend0_ok {k : Nat} {names : List (Str × Nat)} {F : Fn} {env : En} {ds : List D} {S1 S2 : Sto} {vals : List (Str × D)} {d : D} (hk : ds.length = k) (hv : valsOf names env = some vals) (hf : ∀ p ∈ vals, nlD 9 p.2 = true) (hd : ∀ x ∈ ds, nlD 9 x = true)
    (hF : F ds ⟨0, [], some vals⟩ = .ok d S2) (ha : atomD d = true) : lend0 k names F env ds S1 = .ok d ⟨S1.n, S1.l, none⟩ := by
  unfold lend0
  rw [if_pos hk, hv]
  dsimp only
  rw [frVals_id hf]
  dsimp only
  rw [mapM_id fun x hx => frD_id (hd x hx)]
  dsimp only
  rw [hF]
  dsimp only
  rw [if_pos ha]
/-! ### stores -/
structure Keep (S S' : Sto) : Prop where
  le : S.n ≤ S'.n
  same : ∀ k, k < S.n → S'.get k = S.get k
theorem Keep.refl {S : Sto} : Keep S S := ⟨Nat.le_refl _, fun _ _ => rfl⟩
theorem Keep.trans {S S1 S2 : Sto} (a : Keep S S1) (b : Keep S1 S2) : Keep S S2 := ⟨Nat.le_trans a.le b.le, fun k h => (b.same k (Nat.lt_of_lt_of_le h a.le)).trans (a.same k h)⟩
theorem Keep.push {S : Sto} {o : Ob} : Keep S (S.push o) := ⟨Nat.le_succ _, fun _ h => Sto.get_push_lt h⟩
theorem Keep.get {S S' : Sto} (a : Keep S S') {k : Nat} {o : Ob} (h : S.get k = some o) : S'.get k = some o := (a.same k (Sto.get_lt h)).trans h
theorem Keep.unc {S : Sto} : Keep S ⟨S.n, S.l, none⟩ := ⟨Nat.le_refl _, fun _ _ => rfl⟩
/-- as long as it says -/
def Sto.Wf (S : Sto) : Prop := S.l.length = S.n
theorem Sto.Wf.push {S : Sto} {o : Ob} (h : S.Wf) : (S.push o).Wf := by
  unfold Sto.Wf Sto.push at *
  rw [List.length_cons, h]
theorem Sto.Wf.set {S : Sto} {o : Ob} {k : Nat} (h : S.Wf) : (S.set k o).Wf := by
  unfold Sto.Wf Sto.set at *
  rw [List.length_set, h]
theorem cut_one {S : Sto} {o : Ob} (h : S.Wf) (g : S.get 0 = some o) : S.cut 1 = ⟨1, [o], none⟩ := by
  have h0 := Sto.get_lt g
  unfold Sto.get at g
  rw [if_pos h0] at g
  unfold Sto.cut
  unfold Sto.Wf at h
  have e : S.l.drop (S.n - 1) = [o] := by
    refine List.ext_getElem? fun i => ?_
    rw [List.getElem?_drop]
    cases i with
    | zero =>
      rw [show S.n - 1 + 0 = S.n - 1 - 0 by omega, g]
      rfl
    | succ i =>
      rw [List.getElem?_eq_none (by omega)]
      rfl
  rw [e]
theorem okS_one {S : Sto} {o : Ob} {lo : Bool} (h : S.Wf) (g : S.get 0 = some o) (ho : okO lo 1 o = true) : okS lo 1 S = true := by
  have z := cut_one h g
  have h0 := Sto.get_lt g
  unfold Sto.cut at z
  injection z with _ z _
  unfold okS
  rw [z, decide_eq_true (by omega : 1 ≤ S.n)]
  simp only [List.all_cons, List.all_nil, ho, Bool.and_self]

def hdD (ds : List D) : D := match ds with
  | [] => .non
  | d :: _ => d
def isT : R D → Bool
  | .ok (.bl true) _ => true
  | _ => false
theorem isT_ok {r : R D} (h : isT r = true) : ∃ S, r = .ok (.bl true) S := by
  unfold isT at h
  split at h
  · exact ⟨_, rfl⟩
  · cases h
/-- a look: a lambda, what is due -/
structure Lk where
  k : Nat
  q : Nat
  due : List D
def LkOk (names : List (Str × Nat)) (F : Fn) (vals : List (Str × D)) (S : Sto) (p : Lk) : Prop :=
  S.get p.q = some (.lst p.due) ∧ p.due.length ≤ 100 ∧ nlD 9 (hdD p.due) = true ∧ isT (F [.lam p.k, hdD p.due] ⟨0, [], some vals⟩) = true
theorem rep_snoc (i : Nat) (d : D) : List.replicate i d ++ [d] = List.replicate (i + 1) d := by
  rw [List.replicate_succ']
theorem set_keep {S0 S : Sto} {k : Nat} {o o' : Ob} (a : Keep S0 S) (hk : S0.n ≤ k) (h : S.get k = some o') : Keep S0 (S.set k o) :=
  ⟨a.le, fun j hj => by rw [Sto.get_set_ne (Nat.lt_of_lt_of_le hj a.le) (Sto.get_lt h) (by omega)]; exact a.same j hj⟩
theorem look_one {F : Fn} {names : List (Str × Nat)} {vals : List (Str × D)} {env1 : En} {S : Sto} {a b : Nat} {p : Lk} (hv : valsOf names env1 = some vals) (hf : ∀ p ∈ vals, nlD 9 p.2 = true) (ha : env1[a]? = some (some (.lam p.k))) (hb : env1[b]? = some (some (.loc p.q))) (ok : LkOk names F vals S p) (wf : S.Wf) :
    ∃ S', fLend0 2 names F (fArgs [fVar a, fBin opIx (fBin opAdd (fVar b) (fOpA opLst (fArgs [fCst .non]))) (fCst (.int 0))]) env1 S = .ok (.bl true) S' ∧ Keep S S' ∧ S'.Wf := by
  obtain ⟨h1, h2, h3, h4⟩ := ok
  obtain ⟨SF, h4⟩ := isT_ok h4
  have e1 : opAdd (.loc p.q) (.loc S.n) (S.push (.lst [.non])) = some (.loc (S.n + 1), (S.push (.lst [.non])).push (.lst (p.due ++ [.non]))) := by
    unfold opAdd
    dsimp only
    rw [Sto.get_push_lt (Sto.get_lt h1), h1, Sto.get_push_eq]
    dsimp only
    rw [if_pos (by simp; omega)]
    rfl
  have e2 : opIx (.loc (S.n + 1)) (.int 0) ((S.push (.lst [.non])).push (.lst (p.due ++ [.non]))) = some (hdD p.due, (S.push (.lst [.non])).push (.lst (p.due ++ [.non]))) := by
    have g : ((S.push (.lst [.non])).push (.lst (p.due ++ [.non]))).get (S.n + 1) = some (.lst (p.due ++ [.non])) := Sto.get_push_eq (S := S.push (.lst [.non]))
    unfold opIx
    dsimp only
    rw [g]
    dsimp only
    unfold ixD atI ixN
    cases p.due with
    | nil => rfl
    | cons d ds =>
      dsimp only
      rw [if_pos (by omega), if_pos (by simp; omega)]
      rfl
  have e3 : fArgs [fVar a, fBin opIx (fBin opAdd (fVar b) (fOpA opLst (fArgs [fCst .non]))) (fCst (.int 0))] env1 S = .ok [.lam p.k, hdD p.due] ((S.push (.lst [.non])).push (.lst (p.due ++ [.non]))) := by
    have v1 : fVar a env1 S = .ok (.lam p.k) S := by unfold fVar; rw [ha]
    have v2 : fVar b env1 S = .ok (.loc p.q) S := by unfold fVar; rw [hb]
    have v3 : fOpA opLst (fArgs [fCst .non]) env1 S = .ok (.loc S.n) (S.push (.lst [.non])) := rfl
    have v4 : fBin opAdd (fVar b) (fOpA opLst (fArgs [fCst .non])) env1 S = .ok (.loc (S.n + 1)) ((S.push (.lst [.non])).push (.lst (p.due ++ [.non]))) := by
      show ((fVar b env1 S).bind fun a S1 => (fOpA opLst (fArgs [fCst .non]) env1 S1).bind fun b S2 => R.of (opAdd a b S2)) = _
      rw [v2]
      show ((fOpA opLst (fArgs [fCst .non]) env1 S).bind fun b S2 => R.of (opAdd (.loc p.q) b S2)) = _
      rw [v3]
      show R.of (opAdd (.loc p.q) (.loc S.n) (S.push (.lst [.non]))) = _
      rw [e1]
      rfl
    show ((fVar a env1 S).bind fun d S1 => ((fBin opIx (fBin opAdd (fVar b) (fOpA opLst (fArgs [fCst .non]))) (fCst (.int 0)) env1 S1).bind fun d2 S2 => R.ok [d2] S2).bind fun ds S2 => R.ok (d :: ds) S2) = _
    rw [v1]
    show ((((fBin opAdd (fVar b) (fOpA opLst (fArgs [fCst .non])) env1 S).bind fun a S1 => R.of (opIx a (.int 0) S1)).bind fun d2 S2 => R.ok [d2] S2).bind fun ds S2 => R.ok (D.lam p.k :: ds) S2) = _
    rw [v4]
    show (((R.of (opIx (.loc (S.n + 1)) (.int 0) ((S.push (.lst [.non])).push (.lst (p.due ++ [.non]))))).bind fun d2 S2 => R.ok [d2] S2).bind fun ds S2 => R.ok (D.lam p.k :: ds) S2) = _
    rw [e2]
    rfl
  refine ⟨⟨((S.push (.lst [.non])).push (.lst (p.due ++ [.non]))).n, ((S.push (.lst [.non])).push (.lst (p.due ++ [.non]))).l, none⟩, ?_, (Keep.push.trans Keep.push).trans Keep.unc, wf.push.push⟩
  unfold fLend0
  rw [e3]
  show lend0 2 names F env1 [.lam p.k, hdD p.due] _ = _
  refine lend0_ok rfl hv hf (fun x hx => ?_) h4 rfl
  rcases List.mem_cons.mp hx with z | z
  · rw [z]; rfl
  · rw [List.mem_singleton.mp z]; exact h3
theorem looks_loop {F : Fn} {names : List (Str × Nat)} {vals : List (Str × D)} {env0 : En} {S0 : Sto} {L a b : Nat} {ls : List Lk}
    (hg : S0.get L = some (.lst (ls.map fun p => .tup [.lam p.k, .loc p.q]))) (hl : ls.length ≤ 100)
    (h1 : ∀ x y, valsOf names ((env0.set a (some x)).set b (some y)) = some vals) (hf : ∀ p ∈ vals, nlD 9 p.2 = true)
    (h2 : ∀ x y, ((env0.set a (some x)).set b (some y))[a]? = some (some x)) (h3 : ∀ x y, ((env0.set a (some x)).set b (some y))[b]? = some (some y))
    (ok : ∀ p ∈ ls, LkOk names F vals S0 p) : ∀ (j i f : Nat) (S : Sto), i + j = ls.length → ls.length < f + i → Keep S0 S → S.Wf → S.get S0.n = some (.lst (List.replicate i (.bl true))) →
    ∃ S', fCompL (nxS L) (.tp [.nm a, .nm b]) fYes (fLend0 2 names F (fArgs [fVar a, fBin opIx (fBin opAdd (fVar b) (fOpA opLst (fArgs [fCst .non]))) (fCst (.int 0))])) env0 S0.n f i S = .ok (.loc S0.n) S' ∧ S'.get S0.n = some (.lst (List.replicate ls.length (.bl true))) ∧ Keep S0 S' ∧ S'.Wf
  | 0, i, f, S, e, hfu, kp, wf, acc => by
    have e : i = ls.length := e
    cases f with
    | zero => omega
    | succ f =>
      refine ⟨S, ?_, by rw [← e]; exact acc, kp, wf⟩
      have nx : nxS L i S = some none := by
        unfold nxS
        rw [kp.get hg]
        dsimp only
        unfold nxL
        rw [List.getElem?_eq_none (by rw [List.length_map]; omega)]
      unfold fCompL
      rw [nx]
  | j + 1, i, f, S, e, hfu, kp, wf, acc => by
    cases f with
    | zero => omega
    | succ f =>
      have hi : i < ls.length := by omega
      have nx : nxS L i S = some (some (.tup [.lam ls[i].k, .loc ls[i].q])) := by
        unfold nxS
        rw [kp.get hg]
        dsimp only
        unfold nxL
        rw [List.getElem?_map, List.getElem?_eq_getElem hi]
        rfl
      obtain ⟨o1, o2, o3, o4⟩ := ok ls[i] (List.getElem_mem hi)
      obtain ⟨S2, g1, g2, g3⟩ := look_one (F := F) (names := names) (vals := vals) (S := S) (a := a) (b := b) (p := ls[i]) (h1 (.lam ls[i].k) (.loc ls[i].q)) hf (h2 _ _) (h3 _ _) ⟨kp.get o1, o2, o3, o4⟩ wf
      have acc2 := g2.get acc
      obtain ⟨S', r1, r2, r3, r4⟩ := looks_loop hg hl h1 hf h2 h3 ok j (i + 1) f (S2.set S0.n (.lst (List.replicate (i + 1) (.bl true)))) (by omega) (by omega) (set_keep (kp.trans g2) (Nat.le_refl _) acc2) g3.set (Sto.get_set_eq acc2)
      refine ⟨S', ?_, r2, r3, r4⟩
      rw [← r1]
      conv => lhs; unfold fCompL
      rw [nx]
      dsimp only [Tg.put, Tg.puts, fYes, R.quiet, R.bind]
      rw [if_pos rfl, g1]
      dsimp only
      rw [acc2]
      dsimp only
      rw [if_pos (by rw [List.length_replicate]; omega), rep_snoc]
theorem looks_all {F : Fn} {names : List (Str × Nat)} {vals : List (Str × D)} {env : En} {S0 : Sto} {L a b c : Nat} {ls : List Lk}
    (hc : env[c]? = some (some (.loc L))) (hg : S0.get L = some (.lst (ls.map fun p => .tup [.lam p.k, .loc p.q]))) (hl : ls.length ≤ 100)
    (h1 : ∀ x y, valsOf names (((wipeE env [a, b]).set a (some x)).set b (some y)) = some vals) (hf : ∀ p ∈ vals, nlD 9 p.2 = true)
    (h2 : ∀ x y, (((wipeE env [a, b]).set a (some x)).set b (some y))[a]? = some (some x)) (h3 : ∀ x y, (((wipeE env [a, b]).set a (some x)).set b (some y))[b]? = some (some y))
    (ok : ∀ p ∈ ls, LkOk names F vals S0 p) (wf : S0.Wf) :
    ∃ S', fOpA (opAll fun bs => bs.all id) (fArgs [fComp [a, b] (fIter (fVar c)) (.tp [.nm a, .nm b]) fYes (fLend0 2 names F (fArgs [fVar a, fBin opIx (fBin opAdd (fVar b) (fOpA opLst (fArgs [fCst .non]))) (fCst (.int 0))])) 200]) env S0 = .ok (.bl true) S' ∧ Keep S0 S' ∧ S'.Wf := by
  have hi : fIter (fVar c) env S0 = .ok (nxS L) S0 := by
    unfold fIter fVar
    rw [hc]
    show (match walkD (.loc L) S0 with
      | some nx => R.ok nx S0
      | none => .no) = _
    unfold walkD
    dsimp only
    rw [hg]
  have kp : Keep S0 (S0.push (.lst [])) := Keep.push
  obtain ⟨S', r1, r2, r3, r4⟩ := looks_loop (F := F) (names := names) (vals := vals) (S0 := S0) (L := L) hg hl h1 hf h2 h3 ok ls.length 0 200 (S0.push (.lst [])) (by omega) (by omega) kp wf.push Sto.get_push_eq
  refine ⟨S', ?_, r3, r4⟩
  show ((((fIter (fVar c) env S0).bind fun nx S1 => fCompL nx (.tp [.nm a, .nm b]) fYes _ (wipeE env [a, b]) S1.n 200 0 (S1.push (.lst []))).bind fun d S1 => R.ok [d] S1).bind fun ds S1 => R.of (opAll (fun bs => bs.all id) ds S1)) = _
  rw [hi]
  show (((fCompL (nxS L) (.tp [.nm a, .nm b]) fYes _ (wipeE env [a, b]) S0.n 200 0 (S0.push (.lst []))).bind fun d S1 => R.ok [d] S1).bind fun ds S1 => R.of (opAll (fun bs => bs.all id) ds S1)) = _
  rw [r1]
  show R.of (opAll (fun bs => bs.all id) [.loc S0.n] S') = _
  unfold opAll on1 onL rdL
  dsimp only
  rw [r2]
  have bl : ∀ n : Nat, blsD (List.replicate n (.bl true)) = some (List.replicate n true) := fun n => by
    induction n with
    | zero => rfl
    | succ n ih =>
      rw [List.replicate_succ]
      unfold blsD
      rw [ih]
      rfl
  unfold allD
  dsimp only
  rw [bl]
  dsimp only
  rw [show (List.replicate ls.length true).all id = true from List.all_eq_true.mpr fun x hx => (List.mem_replicate.mp hx).2]
  rfl
end Z
set_option Elab.async false
set_option linter.all false
set_option autoImplicit false
set_option maxRecDepth 100000
set_option maxHeartbeats 2000000
/-! Z43: the plain side: what is due, the list of looks, step by step. -/
namespace Z
open PySem PySem.Spec PyProof.Rows L2

theorem seq_nx {g1 g2 : En → Sto → RS} {env env1 : En} {S S1 : Sto} (h : g1 env S = .ok (.nx env1) S1) : gSeq g1 g2 env S = g2 env1 S1 := by
  unfold gSeq
  rw [h]
  rfl
theorem seq_rt {g1 g2 : En → Sto → RS} {env : En} {S S1 : Sto} {d : D} (h : g1 env S = .ok (.rt d) S1) : gSeq g1 g2 env S = .ok (.rt d) S1 := by
  unfold gSeq
  rw [h]
  rfl
theorem seq_exc {g1 g2 : En → Sto → RS} {env env1 : En} {S S1 : Sto} {c : Nat} {v : D} (h : g1 env S = .exc c v env1 S1) : gSeq g1 g2 env S = .exc c v env1 S1 := by
  unfold gSeq
  rw [h]
  rfl
theorem set_ok {i : Nat} {f : FE} {env : En} {S S1 : Sto} {d : D} (h : f env S = .ok d S1) : gSet i f env S = .ok (.nx (env.set i (some d))) S1 := by
  unfold gSet
  rw [h]
  rfl
theorem ret_ok {f : FE} {env : En} {S S1 : Sto} {d : D} (h : f env S = .ok d S1) : gRet f env S = .ok (.rt d) S1 := by
  unfold gRet
  rw [h]
  rfl
theorem ex_ok {f : FE} {env : En} {S S1 : Sto} {d : D} (h : f env S = .ok d S1) : gEx f env S = .ok (.nx env) S1 := by
  unfold gEx
  rw [h]
  rfl
theorem ex_exc {f : FE} {env : En} {S S1 : Sto} {c : Nat} {v : D} (h : f env S = .exc c v S1) : gEx f env S = .exc c v env S1 := by
  unfold gEx
  rw [h]
  rfl
theorem ite_t {t : En → Sto → R Bool} {g1 g2 : En → Sto → RS} {env : En} {S S1 : Sto} (h : t env S = .ok true S1) : gIte t g1 g2 env S = g1 env S1 := by
  unfold gIte
  rw [h]
  rfl
theorem ite_f {t : En → Sto → R Bool} {g1 g2 : En → Sto → RS} {env : En} {S S1 : Sto} (h : t env S = .ok false S1) : gIte t g1 g2 env S = g2 env S1 := by
  unfold gIte
  rw [h]
  rfl
theorem call_ok {F : Fn} {fs : En → Sto → R (List D)} {env : En} {S S1 : Sto} {ds : List D} (h : fs env S = .ok ds S1) : fCall F fs env S = F ds S1 := by
  unfold fCall
  rw [h]
  rfl
theorem args_cons {f : FE} {fs : List FE} {env : En} {S S1 S2 : Sto} {d : D} {ds : List D} (h : f env S = .ok d S1) (h2 : fArgs fs env S1 = .ok ds S2) : fArgs (f :: fs) env S = .ok (d :: ds) S2 := by
  show ((f env S).bind fun d S1 => (fArgs fs env S1).bind fun ds S2 => R.ok (d :: ds) S2) = _
  rw [h]
  show ((fArgs fs env S1).bind fun ds S2 => R.ok (d :: ds) S2) = _
  rw [h2]
  rfl
theorem opA_ok {f : OpA} {fs : En → Sto → R (List D)} {env : En} {S S1 S2 : Sto} {ds : List D} {d : D} (h : fs env S = .ok ds S1) (h2 : f ds S1 = some (d, S2)) : fOpA f fs env S = .ok d S2 := by
  unfold fOpA
  rw [h]
  show R.of (f ds S1) = _
  rw [h2]
  rfl
theorem bin_ok {o : Op2} {f g : FE} {env : En} {S S1 S2 S3 : Sto} {a b d : D} (h : f env S = .ok a S1) (h2 : g env S1 = .ok b S2) (h3 : o a b S2 = some (d, S3)) : fBin o f g env S = .ok d S3 := by
  unfold fBin
  rw [h]
  show ((g env S1).bind fun b S2 => R.of (o a b S2)) = _
  rw [h2]
  show R.of (o a b S2) = _
  rw [h3]
  rfl
theorem var_ok {i : Nat} {env : En} {S : Sto} {d : D} (h : env[i]? = some (some d)) : fVar i env S = .ok d S := by
  unfold fVar
  rw [h]

/-! ### texts of values -/
def rp (x : D) : Option Str := match toP x with
  | some p => if okRep p then some p.shown else none
  | none => none
theorem repD_rp {S : Sto} {x : D} {r : Str} (h : rp x = some r) : repD S x = some (.str r, S) := by
  have e : toPt S x = toP x := by
    cases x with
    | loc k => cases h
    | _ => rfl
  unfold rp at h
  unfold repD
  rw [e]
  revert h
  cases toP x with
  | none =>
    intro h
    cases h
  | some p =>
    intro h
    dsimp only at h ⊢
    by_cases ho : okRep p = true
    · rw [if_pos ho] at h ⊢
      cases h
      rfl
    · rw [if_neg ho] at h
      cases h
theorem repr_ok {i : Nat} {env : En} {S : Sto} {x : D} {r : Str} (h : env[i]? = some (some x)) (hr : rp x = some r) : fOpA opRepr (fArgs [fVar i]) env S = .ok (.str r) S :=
  opA_ok (args_cons (var_ok h) rfl) (repD_rp hr)
/-- a name with what is none of its kind, if its text is another than the good one's -/
theorem pick_ok {i : Nat} {env : En} {S : Sto} {x : D} {r g : Str} {nm : Str} {fg : FE} (h : env[i]? = some (some x)) (hr : rp x = some r) (hg : fg env S = .ok (.str g) S) :
    fIf (fBl (fBin opNe (fOpA opRepr (fArgs [fVar i])) fg)) (fOpA opLst (fArgs [fOpA opTup (fArgs [fCst (.str nm), fVar i])])) (fOpA opLst (fArgs [])) env S = .ok (.loc S.n) (S.push (.lst (if r = g then [] else [.tup [.str nm, x]]))) := by
  have e1 : fBin opNe (fOpA opRepr (fArgs [fVar i])) fg env S = .ok (.bl (!decide (r = g))) S := bin_ok (repr_ok h hr) hg rfl
  unfold fIf fBl
  rw [e1]
  show (if (!decide (r = g)) = true then _ else _) = _
  by_cases e : r = g
  · rw [if_neg (by simp [e]), if_pos e]
    rfl
  · rw [if_pos (by simp [e]), if_neg e]
    exact opA_ok (args_cons (opA_ok (ds := [.str nm, x]) (args_cons rfl (args_cons (var_ok h) rfl)) rfl) rfl) rfl
theorem par_ok {i j : Nat} {f g : FE} {env : En} {S S1 S2 : Sto} {a b : D} (h : f env S = .ok a S1) (h2 : g env S1 = .ok b S2) : gPar i j (fArgs [f, g]) env S = .ok (.nx ((env.set i (some a)).set j (some b))) S2 := by
  unfold gPar
  rw [args_cons h (args_cons h2 rfl)]
  rfl

/-! ### what is due -/
/-- an expression that gives a list, its place below B or new -/
def Due (B : Nat) (f : FE) (env : En) (S : Sto) (due : List D) : Prop := ∃ q S', f env S = .ok (.loc q) S' ∧ Keep S S' ∧ S'.Wf ∧ S'.get q = some (.lst due) ∧ (q < B ∨ S.n ≤ q)
theorem due_var {B i q : Nat} {env : En} {S : Sto} {due : List D} (h : env[i]? = some (some (.loc q))) (hq : q < B) (g : S.get q = some (.lst due)) (wf : S.Wf) : Due B (fVar i) env S due :=
  ⟨q, S, var_ok h, Keep.refl, wf, g, .inl hq⟩
theorem due_add {B : Nat} {f g : FE} {env : En} {S : Sto} {d1 d2 : List D} (h1 : Due B f env S d1) (h2 : ∀ S', Keep S S' → S'.Wf → Due B g env S' d2) (hl : d1.length + d2.length ≤ 1000000) : Due B (fBin opAdd f g) env S (d1 ++ d2) := by
  obtain ⟨q1, S1, e1, k1, w1, g1, b1⟩ := h1
  obtain ⟨q2, S2, e2, k2, w2, g2, b2⟩ := h2 S1 k1 w1
  refine ⟨S2.n, S2.push (.lst (d1 ++ d2)), bin_ok e1 e2 ?_, (k1.trans k2).trans Keep.push, w2.push, Sto.get_push_eq, .inr (k1.trans k2).le⟩
  unfold opAdd
  dsimp only
  rw [k2.get g1, g2]
  dsimp only
  rw [if_pos hl]
/-- the list of looks -/
structure Lks (B : Nat) (S0 S : Sto) (L : Nat) (ls : List Lk) : Prop where
  le : B ≤ L
  ln : B ≤ S0.n
  lt : L < S.n
  wf : S.Wf
  base : ∀ k, k < B → S.get k = S0.get k
  at_ : S.get L = some (.lst (ls.map fun p => .tup [.lam p.k, .loc p.q]))
  due : ∀ p ∈ ls, S.get p.q = some (.lst p.due) ∧ p.q ≠ L
theorem looks_first {B i k : Nat} {f : FE} {env : En} {S : Sto} {due : List D} (h : Due B f env S due) (hB : B ≤ S.n) :
    ∃ L S' q, gSet i (fOpA opLst (fArgs [fOpA opTup (fArgs [fLam k, f])])) env S = .ok (.nx (env.set i (some (.loc L)))) S' ∧ Lks B S S' L [⟨k, q, due⟩] := by
  obtain ⟨q, S1, e, kp, wf, g, b⟩ := h
  refine ⟨S1.n, S1.push (.lst [.tup [.lam k, .loc q]]), q, set_ok (opA_ok (args_cons (opA_ok (ds := [.lam k, .loc q]) (args_cons rfl (args_cons e rfl)) rfl) rfl) rfl), Nat.le_trans hB kp.le, hB, Nat.lt_succ_self _, wf.push, fun k hk => ?_, Sto.get_push_eq, fun p hp => ?_⟩
  · exact (kp.trans Keep.push).same k (Nat.lt_of_lt_of_le hk hB)
  · rw [List.mem_singleton.mp hp]
    exact ⟨Keep.push.get g, Nat.ne_of_lt (Sto.get_lt g)⟩
theorem looks_app {B i k L : Nat} {f : FE} {env : En} {S0 S : Sto} {due : List D} {ls : List Lk} (lk : Lks B S0 S L ls) (hi : env[i]? = some (some (.loc L))) (hl : ls.length ≤ 100) (h : Due B f env S due) :
    ∃ S' q, gEx (fMeth "list" opAppend (fVar i) (fArgs [fOpA opTup (fArgs [fLam k, f])])) env S = .ok (.nx env) S' ∧ Lks B S0 S' L (ls ++ [⟨k, q, due⟩]) := by
  obtain ⟨q, S1, e, kp, wf, g, b⟩ := h
  have gL := kp.get lk.at_
  have hq : q ≠ L := fun z => by
    subst z
    rcases b with b | b
    · exact absurd lk.le (by omega)
    · exact absurd lk.lt (by omega)
  have e1 : fArgs [fOpA opTup (fArgs [fLam k, f])] env S = .ok [.tup [.lam k, .loc q]] S1 := args_cons (opA_ok (ds := [.lam k, .loc q]) (args_cons rfl (args_cons e rfl)) rfl) rfl
  have e2 : fMeth "list" opAppend (fVar i) (fArgs [fOpA opTup (fArgs [fLam k, f])]) env S = .ok .non (S1.set L (.lst ((ls.map fun p => .tup [.lam p.k, .loc p.q]) ++ [.tup [.lam k, .loc q]]))) := by
    unfold fMeth
    rw [var_ok hi]
    show (if tyD "list" S (.loc L) then _ else _) = _
    have t : tyD "list" S (.loc L) = true := by
      unfold tyD
      dsimp only
      rw [lk.at_]
      rfl
    rw [if_pos t, e1]
    show R.of (opAppend (.loc L) [.tup [.lam k, .loc q]] S1) = _
    unfold opAppend on1 appD
    dsimp only
    rw [gL]
    dsimp only
    rw [if_pos (by rw [List.length_map]; omega)]
    rfl
  refine ⟨_, q, ex_ok e2, lk.le, lk.ln, (show L < S1.n from Sto.get_lt gL), wf.set, fun k hk => ?_, ?_, fun p hp => ?_⟩
  · have hk2 : k < S1.n := Nat.lt_of_lt_of_le hk (Nat.le_of_lt (Nat.lt_of_le_of_lt lk.le (Sto.get_lt gL)))
    rw [Sto.get_set_ne hk2 (Sto.get_lt gL) (by have := lk.le; omega), kp.same k (Nat.lt_of_le_of_lt (Nat.le_trans (Nat.le_of_lt hk) lk.le) lk.lt)]
    exact lk.base k hk
  · rw [Sto.get_set_eq gL, List.map_append]
    rfl
  · rcases List.mem_append.mp hp with hp | hp
    · obtain ⟨h1, h2⟩ := lk.due p hp
      have h3 := kp.get h1
      exact ⟨by rw [Sto.get_set_ne (Sto.get_lt h3) (Sto.get_lt gL) h2]; exact h3, h2⟩
    · rw [List.mem_singleton.mp hp]
      exact ⟨by rw [Sto.get_set_ne (Sto.get_lt g) (Sto.get_lt gL) hq]; exact g, hq⟩
theorem Lks.ok {B L : Nat} {S0 S : Sto} {ls : List Lk} {names : List (Str × Nat)} {F : Fn} {vals : List (Str × D)} (lk : Lks B S0 S L ls) (h : ∀ p ∈ ls, p.due.length ≤ 100 ∧ nlD 9 (hdD p.due) = true ∧ isT (F [.lam p.k, hdD p.due] ⟨0, [], some vals⟩) = true) : ∀ p ∈ ls, LkOk names F vals S p :=
  fun p hp => ⟨(lk.due p hp).1, h p hp⟩
end Z
set_option Elab.async false
set_option linter.all false
set_option autoImplicit false
set_option maxRecDepth 100000
set_option maxHeartbeats 2000000
/-! Z44: the plain side: a cell's draws. -/
namespace Z
open PySem PySem.Spec PyProof.Rows L2

theorem log2_lt {n k : Nat} (h : n < 2 ^ k) (hk : 0 < k) : n.log2 < k := by
  by_cases e : n = 0
  · subst e
    simpa using hk
  · exact (Nat.log2_lt e).mpr h
theorem mul_ok {i j : Int} {S : Sto} (hi : i.natAbs < 2 ^ 1000) (hj : j.natAbs < 2 ^ 1000) : opMul (.int i) (.int j) S = some (.int (i * j), S) := by
  show (if i.natAbs.log2 + j.natAbs.log2 < 1000000 then some (D.int (i * j), S) else none) = _
  have h1 := log2_lt hi (by omega)
  have h2 := log2_lt hj (by omega)
  rw [if_pos (by omega)]
theorem mod_ok {i j : Int} {S : Sto} (hj : 0 < j) : opMod (.int i) (.int j) S = some (.int (i % j), S) := by
  show (if 0 < j then some (D.int (i % j), S) else none) = _
  rw [if_pos hj]
theorem fdiv_ok {i j : Int} {S : Sto} (hj : 0 < j) (h2 : j.natAbs < 2 ^ 1000) : opFdiv (.int i) (.int j) S = some (.int (i / j), S) := by
  show (if (decide (0 < j) && decide (j.natAbs.log2 < 9000)) = true then some (D.int (i / j), S) else none) = _
  have := log2_lt h2 (by omega)
  rw [if_pos (by simp [hj]; omega)]
theorem pow3_ok {i : Int} {S : Sto} (hi : i.natAbs < 2 ^ 1000) : opPow (.int i) (.int 3) S = some (.int (i ^ 3), S) := by
  show (if (decide ((0 : Int) ≤ 3) && (decide ((3 : Int) ≤ 1000) && decide (i.natAbs.log2 < 10000))) = true then some (D.int (i ^ 3), S) else none) = _
  have := log2_lt hi (by omega)
  rw [if_pos (by simp; omega)]
theorem natAbs_lt {i : Int} {k : Nat} (h0 : 0 ≤ i) (h : i < ((2 ^ k : Nat) : Int)) : i.natAbs < 2 ^ k := by omega
theorem small_lt {n : Nat} {k : Nat} (hk : k ≤ 1000) (h : n < 2 ^ k) : n < 2 ^ 1000 := Nat.lt_of_lt_of_le h (Nat.pow_le_pow_right (by omega) hk)

def potS (a b c : Int) : Sto := ⟨1, [.lst [.int a, .int b, .int c]], none⟩
structure PotB (m a b c : Int) : Prop where
  a0 : 0 ≤ a
  a1 : a.natAbs < 2 ^ 1000
  b0 : 0 ≤ b
  b1 : b < 2305843009213693952
  c0 : 0 ≤ c
  c1 : c ≤ m
def gTake (k1 k2 k3 : Int) : En → Sto → RS := (gSeq (gIte (fBl (fBin opGt (fBin opIx (fVar 0) (fCst (.int 0))) (fCst (.int 0)))) (gSeq (gSet 4 (fBin opMod (fOpA opInt (fArgs [(fBin opIx (fVar 0) (fCst (.int 0)))])) (fVar 1))) (gSeq (gSetS (fBin opFdiv (fBin opIx (fVar 0) (fCst (.int 0))) (fVar 1)) (fVar 0) (fCst (.int 0))) (gSeq (gRet (fVar 4)) gNil))) gNil) (gSeq (gSetS (fBin opAdd (fBin opIx (fVar 0) (fCst (.int 2))) (fCst (.int 1))) (fVar 0) (fCst (.int 2))) (gSeq (gSet 2 (fGC (fBin opIx (fOpA opLst (fArgs [(fCst (.int 2147483647)), (fCst (.int 2147483629)), (fCst (.int 2147483587)), (fCst (.int 2147483579))])) (fBin opMod (fOpA opInt (fArgs [(fBin opIx (fVar 0) (fCst (.int 2)))])) (fCst (.int 4)))))) (gSeq (gSet 3 (fBin opMod (fOpA opInt (fArgs [(fBin opPow (fOpA opInt (fArgs [(fBin opAdd (fBin opAdd (fBin opIx (fVar 0) (fCst (.int 1))) (fBin opMul (fBin opMul (fCst (.int k1)) (fBin opIx (fVar 0) (fCst (.int 2)))) (fBin opIx (fVar 0) (fCst (.int 2))))) (fCst (.int k2)))])) (fCst (.int 3)))])) (fVar 2))) (gSeq (gRet (fBin opMod (fOpA opInt (fArgs [(fBin opFdiv (fBin opMul (fVar 3) (fBin opAdd (fBin opMod (fOpA opInt (fArgs [(fVar 3)])) (fCst (.int 10007))) (fBin opMul (fCst (.int k3)) (fBin opIx (fVar 0) (fCst (.int 2)))))) (fCst (.int 307)))])) (fVar 1))) gNil)))))
theorem ix_pot {i : Nat} {a b c : Int} {env : En} {l : List Ob} (j : Int) (d : D) (h : env[i]? = some (some (.loc 0))) (hd : opIx (.loc 0) (.int j) (potS a b c) = some (d, potS a b c)) : fBin opIx (fVar i) (fCst (.int j)) env (potS a b c) = .ok d (potS a b c) := bin_ok (var_ok h) rfl hd
theorem sets_ok {fv fo fi : FE} {env : En} {S S1 S2 S3 S4 : Sto} {v o i : D} (h1 : fv env S = .ok v S1) (h2 : fo env S1 = .ok o S2) (h3 : fi env S2 = .ok i S3) (h4 : opSet o i v S3 = some S4) : gSetS fv fo fi env S = .ok (.nx env) S4 := by
  unfold gSetS
  rw [h1]
  show ((fo env S1).st env _) = _
  rw [h2]
  show ((fi env S2).st env _) = _
  rw [h3]
  show (match opSet o i v S3 with
    | some S4 => RS.ok (.nx env) S4
    | none => .no) = _
  rw [h4]
theorem take_ok {k1 k2 k3 a b c n m : Int} (K1 : 0 ≤ k1 ∧ k1 < 2 ^ 20) (K2 : 0 ≤ k2 ∧ k2 < 2 ^ 20) (K3 : 0 ≤ k3 ∧ k3 < 2 ^ 20) (hn : 0 < n) (hn2 : n < 2 ^ 20) (hm : m ≤ 100000) (B : PotB m a b c) :
    ∃ r a' c', 0 ≤ r ∧ r < n ∧ PotB (m + 1) a' b c' ∧ runF 5 (gTake k1 k2 k3) [.loc 0, .int n] (potS a b c) = .ok (.int r) (potS a' b c') := by
  have hn1 : n.natAbs < 2 ^ 1000 := small_lt (k := 20) (by omega) (by omega)
  by_cases ha : 0 < a
  · refine ⟨a % n, a / n, c, Int.emod_nonneg _ (by omega), Int.emod_lt_of_pos _ hn, ⟨Int.ediv_nonneg B.a0 (by omega), ?_, B.b0, B.b1, B.c0, by have := B.c1; omega⟩, ?_⟩
    · have := B.a1
      have h2 : a / n ≤ a := Int.ediv_le_self _ B.a0
      have h3 : 0 ≤ a / n := Int.ediv_nonneg B.a0 (by omega)
      omega
    · show ((gTake k1 k2 k3) [some (.loc 0), some (.int n), none, none, none] (potS a b c)).fin = _
      unfold gTake
      have ht : fBl (fBin opGt (fBin opIx (fVar 0) (fCst (.int 0))) (fCst (.int 0))) [some (.loc 0), some (.int n), none, none, none] (potS a b c) = .ok true (potS a b c) := by
        show R.ok (decide (0 < a)) (potS a b c) = _
        rw [decide_eq_true ha]
      rw [seq_rt (d := .int (a % n)) (S1 := potS (a / n) b c)]
      · rfl
      · rw [ite_t ht]
        rw [seq_nx (set_ok (bin_ok (a := .int a) (b := .int n) rfl rfl (mod_ok hn)))]
        rw [seq_nx (sets_ok (v := .int (a / n)) (S4 := potS (a / n) b c) (bin_ok (a := .int a) (b := .int n) rfl rfl (fdiv_ok hn hn1)) rfl rfl rfl)]
        exact seq_rt rfl
  · have ec := B.c0
    have hc2 := B.c1
    have hb0 := B.b0
    have hb1 := B.b1
    obtain ⟨p, hp0, hp1, hprime⟩ : ∃ p : Int, 0 < p ∧ p < 2 ^ 31 ∧ fGC (fBin opIx (fOpA opLst (fArgs [(fCst (.int 2147483647)), (fCst (.int 2147483629)), (fCst (.int 2147483587)), (fCst (.int 2147483579))])) (fBin opMod (fOpA opInt (fArgs [(fBin opIx (fVar 0) (fCst (.int 2)))])) (fCst (.int 4)))) [some (.loc 0), some (.int n), none, none, none] (potS a b (c + 1)) = .ok (.int p) (potS a b (c + 1)) := by
      have q : ∀ (r : Int) (p : Int), (c + 1) % 4 = r → opIx (.loc 1) (.int r) ((potS a b (c + 1)).push (.lst [.int 2147483647, .int 2147483629, .int 2147483587, .int 2147483579])) = some (.int p, (potS a b (c + 1)).push (.lst [.int 2147483647, .int 2147483629, .int 2147483587, .int 2147483579])) →
          fGC (fBin opIx (fOpA opLst (fArgs [(fCst (.int 2147483647)), (fCst (.int 2147483629)), (fCst (.int 2147483587)), (fCst (.int 2147483579))])) (fBin opMod (fOpA opInt (fArgs [(fBin opIx (fVar 0) (fCst (.int 2)))])) (fCst (.int 4)))) [some (.loc 0), some (.int n), none, none, none] (potS a b (c + 1)) = .ok (.int p) (potS a b (c + 1)) := fun r p hr h => by
        unfold fGC
        rw [bin_ok (a := .loc 1) (b := .int r) (S1 := (potS a b (c + 1)).push (.lst [.int 2147483647, .int 2147483629, .int 2147483587, .int 2147483579])) (S2 := (potS a b (c + 1)).push (.lst [.int 2147483647, .int 2147483629, .int 2147483587, .int 2147483579])) rfl (by rw [← hr]; exact bin_ok (a := .int (c + 1)) (b := .int 4) rfl rfl (mod_ok (by omega))) h]
        rfl
      have h4 : (c + 1) % 4 = 0 ∨ (c + 1) % 4 = 1 ∨ (c + 1) % 4 = 2 ∨ (c + 1) % 4 = 3 := by omega
      rcases h4 with h | h | h | h
      · exact ⟨2147483647, by omega, by omega, q _ _ h rfl⟩
      · exact ⟨2147483629, by omega, by omega, q _ _ h rfl⟩
      · exact ⟨2147483587, by omega, by omega, q _ _ h rfl⟩
      · exact ⟨2147483579, by omega, by omega, q _ _ h rfl⟩
    have hk1 : 0 ≤ k1 * (c + 1) := Int.mul_nonneg K1.1 (by omega)
    have hk2 : k1 * (c + 1) ≤ 2 ^ 20 * 2 ^ 17 := Int.mul_le_mul (by omega) (by omega) (by omega) (by omega)
    have hk3 : 0 ≤ k1 * (c + 1) * (c + 1) := Int.mul_nonneg hk1 (by omega)
    have hk4 : k1 * (c + 1) * (c + 1) ≤ 2 ^ 20 * 2 ^ 17 * 2 ^ 17 := Int.mul_le_mul hk2 (by omega) (by omega) (by omega)
    obtain ⟨B1, hB1, hB2, hblend⟩ : ∃ B1 : Int, 0 ≤ B1 ∧ B1 < p ∧ fBin opMod (fOpA opInt (fArgs [(fBin opPow (fOpA opInt (fArgs [(fBin opAdd (fBin opAdd (fBin opIx (fVar 0) (fCst (.int 1))) (fBin opMul (fBin opMul (fCst (.int k1)) (fBin opIx (fVar 0) (fCst (.int 2)))) (fBin opIx (fVar 0) (fCst (.int 2))))) (fCst (.int k2)))])) (fCst (.int 3)))])) (fVar 2) [some (.loc 0), some (.int n), some (.int p), none, none] (potS a b (c + 1)) = .ok (.int B1) (potS a b (c + 1)) := by
      refine ⟨(b + k1 * (c + 1) * (c + 1) + k2) ^ 3 % p, Int.emod_nonneg _ (by omega), Int.emod_lt_of_pos _ hp0, ?_⟩
      refine bin_ok (a := .int ((b + k1 * (c + 1) * (c + 1) + k2) ^ 3)) (b := .int p) (opA_ok (ds := [.int ((b + k1 * (c + 1) * (c + 1) + k2) ^ 3)]) (args_cons (bin_ok (a := .int (b + k1 * (c + 1) * (c + 1) + k2)) (b := .int 3) (opA_ok (ds := [.int (b + k1 * (c + 1) * (c + 1) + k2)]) (args_cons (bin_ok (a := .int (b + k1 * (c + 1) * (c + 1))) (b := .int k2) (bin_ok (a := .int b) (b := .int (k1 * (c + 1) * (c + 1))) rfl (bin_ok (a := .int (k1 * (c + 1))) (b := .int (c + 1)) (bin_ok (a := .int k1) (b := .int (c + 1)) rfl rfl (mul_ok (small_lt (k := 20) (by omega) (by omega)) (small_lt (k := 20) (by omega) (by omega)))) rfl (mul_ok (small_lt (k := 40) (by omega) (by omega)) (small_lt (k := 20) (by omega) (by omega)))) rfl) rfl rfl) rfl) rfl) rfl (pow3_ok (small_lt (k := 70) (by omega) (by omega)))) rfl) rfl) rfl (mod_ok hp0)
    have hm0 : 0 ≤ B1 % 10007 := Int.emod_nonneg _ (by omega)
    have hm1 : B1 % 10007 < 10007 := Int.emod_lt_of_pos _ (by omega)
    have hk5 : 0 ≤ k3 * (c + 1) := Int.mul_nonneg K3.1 (by omega)
    have hk6 : k3 * (c + 1) ≤ 2 ^ 20 * 2 ^ 17 := Int.mul_le_mul (by omega) (by omega) (by omega) (by omega)
    refine ⟨B1 * (B1 % 10007 + k3 * (c + 1)) / 307 % n, a, c + 1, Int.emod_nonneg _ (by omega), Int.emod_lt_of_pos _ hn, ⟨B.a0, B.a1, B.b0, B.b1, by omega, by omega⟩, ?_⟩
    show ((gTake k1 k2 k3) [some (.loc 0), some (.int n), none, none, none] (potS a b c)).fin = _
    unfold gTake
    have ht : fBl (fBin opGt (fBin opIx (fVar 0) (fCst (.int 0))) (fCst (.int 0))) [some (.loc 0), some (.int n), none, none, none] (potS a b c) = .ok false (potS a b c) := by
      show R.ok (decide (0 < a)) (potS a b c) = _
      rw [decide_eq_false ha]
    rw [seq_nx (env1 := [some (.loc 0), some (.int n), none, none, none]) (S1 := potS a b c) (by rw [ite_f ht]; rfl)]
    rw [seq_nx (sets_ok (v := .int (c + 1)) (S4 := potS a b (c + 1)) rfl rfl rfl rfl)]
    rw [seq_nx (set_ok hprime)]
    rw [show [some (D.loc 0), some (.int n), none, none, none].set 2 (some (.int p)) = [some (.loc 0), some (.int n), some (.int p), none, none] from rfl]
    rw [seq_nx (set_ok hblend)]
    rw [show [some (D.loc 0), some (.int n), some (.int p), none, none].set 3 (some (.int B1)) = [some (.loc 0), some (.int n), some (.int p), some (.int B1), none] from rfl]
    rw [seq_rt (ret_ok (bin_ok (a := .int (B1 * (B1 % 10007 + k3 * (c + 1)) / 307)) (b := .int n) (opA_ok (ds := [.int (B1 * (B1 % 10007 + k3 * (c + 1)) / 307)]) (args_cons (bin_ok (a := .int (B1 * (B1 % 10007 + k3 * (c + 1)))) (b := .int 307) (bin_ok (a := .int B1) (b := .int (B1 % 10007 + k3 * (c + 1))) rfl (bin_ok (a := .int (B1 % 10007)) (b := .int (k3 * (c + 1))) (bin_ok (a := .int B1) (b := .int 10007) rfl rfl (mod_ok (by omega))) (bin_ok (a := .int k3) (b := .int (c + 1)) rfl rfl (mul_ok (small_lt (k := 20) (by omega) (by omega)) (small_lt (k := 20) (by omega) (by omega)))) rfl) (mul_ok (small_lt (k := 31) (by omega) (by omega)) (small_lt (k := 40) (by omega) (by omega)))) rfl (fdiv_ok (by omega) (small_lt (k := 20) (by omega) (by decide)))) rfl) rfl) rfl (mod_ok hn)))]
    rfl
def gOf (F : Fn) : En → Sto → RS := (gSeq (gRet (fBin opIx (fVar 1) (fCall F (fArgs [(fVar 0), (fOpA opLen (fArgs [(fVar 1)]))])))) gNil)
theorem of_ok {k1 k2 k3 a b c m : Int} {items : List D} (K1 : 0 ≤ k1 ∧ k1 < 2 ^ 20) (K2 : 0 ≤ k2 ∧ k2 < 2 ^ 20) (K3 : 0 ≤ k3 ∧ k3 < 2 ^ 20) (hn : items ≠ []) (hn2 : items.length < 1000) (hm : m ≤ 100000) (B : PotB m a b c) :
    ∃ x a' c', x ∈ items ∧ PotB (m + 1) a' b c' ∧ runF 2 (gOf (runF 5 (gTake k1 k2 k3))) [.loc 0, .sq items] (potS a b c) = .ok x (potS a' b c') := by
  have hl : 0 < items.length := List.length_pos_iff.mpr hn
  obtain ⟨r, a', c', h1, h2, h3, h4⟩ := take_ok (n := (items.length : Int)) K1 K2 K3 (by omega) (by omega) hm B
  obtain ⟨j, rfl⟩ := Int.eq_ofNat_of_zero_le h1
  have hj : j < items.length := by omega
  refine ⟨items[j], a', c', List.getElem_mem hj, h3, ?_⟩
  show ((gOf (runF 5 (gTake k1 k2 k3))) [some (.loc 0), some (.sq items)] (potS a b c)).fin = _
  unfold gOf
  have e : fBin opIx (fVar 1) (fCall (runF 5 (gTake k1 k2 k3)) (fArgs [(fVar 0), (fOpA opLen (fArgs [(fVar 1)]))])) [some (.loc 0), some (.sq items)] (potS a b c) = .ok items[j] (potS a' b c') := by
    refine bin_ok (a := .sq items) (b := .int j) rfl (by rw [call_ok (ds := [.loc 0, .int items.length]) (S1 := potS a b c) rfl]; exact h4) ?_
    show ixD items (potS a' b c') (.int j) = _
    unfold ixD atI ixN
    dsimp only
    rw [if_pos (by omega), if_pos (by omega)]
    show (match items[(j : Int).toNat]? with
      | some d => some (d, potS a' b c')
      | none => none) = _
    rw [show (j : Int).toNat = j by omega, List.getElem?_eq_getElem hj]
  rw [seq_rt (ret_ok e)]
  rfl
end Z
set_option Elab.async false
set_option linter.all false
set_option autoImplicit false
set_option maxRecDepth 100000
set_option maxHeartbeats 2000000
/-! Z45: the plain side: the cells of a script, laps over each. -/
namespace Z
open PySem PySem.Spec PyProof.Rows L2

/-- a store of flat lists -/
structure FlS (S : Sto) : Prop where
  wf : S.Wf
  cv : S.cv = none
  fl : S.l.all flatO = true
mutual
theorem okD_flat {lo : Bool} {n : Nat} : ∀ d : D, flatD d = true → okD lo n d = true
  | .non, _ => rfl
  | .bl _, _ => rfl
  | .int _, _ => rfl
  | .str _, _ => rfl
  | .tup xs, h => by
    unfold flatD at h
    unfold okD
    exact okDs_flat xs h
theorem okDs_flat {lo : Bool} {n : Nat} : ∀ ds : List D, flatDs ds = true → okDs lo n ds = true
  | [], _ => rfl
  | d :: ds, h => by
    unfold flatDs at h
    rw [Bool.and_eq_true] at h
    unfold okDs
    rw [okD_flat d h.1, okDs_flat ds h.2]
    rfl
end
theorem okO_flat {lo : Bool} {n : Nat} {o : Ob} (h : flatO o = true) : okO lo n o = true := by
  cases o <;> try cases h
  exact okDs_flat _ h
theorem okS_flat {lo : Bool} {n : Nat} {S : Sto} (h : S.l.all flatO = true) (hn : n ≤ S.n) : okS lo n S = true := by
  unfold okS
  rw [decide_eq_true hn, Bool.true_and]
  exact List.all_eq_true.mpr fun o ho => okO_flat (List.all_eq_true.mp h o (List.mem_of_mem_drop ho))
theorem FlS.push {S : Sto} {o : Ob} (h : FlS S) (ho : flatO o = true) : FlS (S.push o) := ⟨h.wf.push, h.cv, by
  show (o :: S.l).all flatO = true
  rw [List.all_cons, ho, h.fl]
  rfl⟩
theorem FlS.set {S : Sto} {o : Ob} {k : Nat} (h : FlS S) (ho : flatO o = true) : FlS (S.set k o) := ⟨h.wf.set, h.cv, by
  refine List.all_eq_true.mpr fun x hx => ?_
  rcases List.mem_or_eq_of_mem_set hx with z | z
  · exact List.all_eq_true.mp h.fl x z
  · rw [z]; exact ho⟩
theorem gc_push {S : Sto} {o : Ob} : (S.push o).gc S.n = S := by
  unfold Sto.gc Sto.push
  dsimp only
  rw [show S.n + 1 - S.n = 1 by omega]
  rfl
theorem gc_flat {S : Sto} {o : Ob} {d : D} (h : FlS S) (ho : flatO o = true) (hd : gcD S.n 9 (S.push o) d = some d) : gcR S.n (.ok d (S.push o)) = .ok d S := by
  unfold gcR
  dsimp only
  rw [hd]
  dsimp only
  rw [if_pos, gc_push]
  rw [okS_flat (h.push ho).fl (Nat.le_succ _), Bool.true_and]
  unfold okC
  rw [show (S.push o).cv = none from h.cv]
theorem push_set_lt {S : Sto} {a o : Ob} {p : Nat} (hp : p < S.n) : (S.push a).set p o = (S.set p o).push a := by
  unfold Sto.push Sto.set
  dsimp only
  rw [show S.n + 1 - 1 - p = (S.n - 1 - p) + 1 by omega]
  rfl
theorem push_set_eq {S : Sto} {a o : Ob} : (S.push a).set S.n o = S.push o := by
  unfold Sto.push Sto.set
  dsimp only
  rw [show S.n + 1 - 1 - S.n = 0 by omega]
  rfl
/-! ### the places -/
def gCells : En → Sto → RS := (gSeq (gRet (fLr1 (fOpA opMax2 (fArgs [(fCst (.int 1)), (fOpA opMin2 (fArgs [(fVar 1), (fOpA opLen (fArgs [(fVar 0)]))]))])))) gNil)
theorem cells_ok {xs : List Int} {S : Sto} (h : FlS S) (hl : xs.length < 1000) (K : Nat) (hK : K < 1000) : ∃ k : Nat, k ≤ K + 1 ∧ fGC (fCall (runF 2 gCells) (fArgs [fVar 0, fCst (.int K)])) [some (.sq (xs.map .int)), none, none, none] S = .ok (.sq (rgD 0 k)) S := by
  have e : ∀ k : Int, 0 ≤ k → k < 1001 → lr1 S (.int k) = some (.loc S.n, S.push (.lst (rgD 0 k))) := fun k h0 h1 => by
    show (if okR 0 && (okR k && decide ((k - 0).toNat ≤ 1000000)) then some (D.loc S.n, S.push (.lst (rgD 0 k))) else none) = _
    rw [if_pos]
    unfold okR
    simp only [Bool.and_eq_true, decide_eq_true_eq]
    omega
  obtain ⟨k, hk1, hk2, hk⟩ : ∃ k : Nat, k ≤ K + 1 ∧ k < 1001 ∧ (if (if ((xs.map D.int).length : Int) < K then ((xs.map D.int).length : Int) else K) > 1 then (if ((xs.map D.int).length : Int) < K then ((xs.map D.int).length : Int) else K) else 1) = (k : Int) := by
    rw [List.length_map]
    refine ⟨(if (if (xs.length : Int) < K then (xs.length : Int) else K) > 1 then (if (xs.length : Int) < K then (xs.length : Int) else K) else 1).toNat, ?_, ?_, ?_⟩
    all_goals
      split
      · split <;> omega
      · omega
  refine ⟨k, hk1, ?_⟩
  have e2 : fCall (runF 2 gCells) (fArgs [fVar 0, fCst (.int K)]) [some (.sq (xs.map .int)), none, none, none] S = .ok (.loc S.n) (S.push (.lst (rgD 0 k))) := by
    rw [call_ok (ds := [.sq (xs.map .int), .int K]) (S1 := S) rfl]
    show (gCells [some (.sq (xs.map .int)), some (.int K)] S).fin = _
    unfold gCells
    have e3 : fLr1 (fOpA opMax2 (fArgs [(fCst (.int 1)), (fOpA opMin2 (fArgs [(fVar 1), (fOpA opLen (fArgs [(fVar 0)]))]))])) [some (.sq (xs.map .int)), some (.int K)] S = .ok (.loc S.n) (S.push (.lst (rgD 0 k))) := by
      unfold fLr1
      rw [show fOpA opMax2 (fArgs [(fCst (.int 1)), (fOpA opMin2 (fArgs [(fVar 1), (fOpA opLen (fArgs [(fVar 0)]))]))]) [some (.sq (xs.map .int)), some (.int K)] S = .ok (.int (if (if ((xs.map D.int).length : Int) < K then ((xs.map D.int).length : Int) else K) > 1 then (if ((xs.map D.int).length : Int) < K then ((xs.map D.int).length : Int) else K) else 1)) S from rfl]
      show R.of (lr1 S (.int _)) = _
      rw [hk, e k (by omega) (by omega)]
      rfl
    rw [seq_rt (ret_ok e3)]
    rfl
  unfold fGC
  rw [e2]
  unfold gcR
  have g : gcD S.n 9 (S.push (.lst (rgD 0 k))) (.loc S.n) = some (.sq (rgD 0 k)) := by
    show (if S.n < S.n then some (D.loc S.n) else match (S.push (.lst (rgD 0 k))).get S.n with
      | some (.lst ds) => (ds.mapM (gcD S.n 8 (S.push (.lst (rgD 0 k))))).map .sq
      | _ => none) = _
    rw [if_neg (Nat.lt_irrefl _), Sto.get_push_eq]
    dsimp only
    rw [mapM_id fun x hx => ?_]
    · rfl
    · unfold rgD at hx
      obtain ⟨i, _, rfl⟩ := List.mem_map.mp hx
      rfl
  dsimp only
  rw [g]
  dsimp only
  have fo : flatO (.lst (rgD 0 k)) = true := by
    show flatDs (rgD 0 k) = true
    have : ∀ ds : List D, (∀ d ∈ ds, flatD d = true) → flatDs ds = true := fun ds => by
      induction ds with
      | nil => exact fun _ => rfl
      | cons d ds ih =>
        intro h
        unfold flatDs
        rw [h d (List.mem_cons_self ..), ih fun e he => h e (List.mem_cons_of_mem _ he)]
        rfl
    refine this _ fun d hd => ?_
    unfold rgD at hd
    obtain ⟨i, _, rfl⟩ := List.mem_map.mp hd
    rfl
  rw [if_pos, gc_push]
  rw [okS_flat (h.push fo).fl (Nat.le_succ _), Bool.true_and]
  unfold okC
  rw [show (S.push (.lst (rgD 0 k))).cv = none from h.cv]
/-! ### a cell's pot -/
def gPot (k1 k2 k3 k4 k5 : Int) : En → Sto → RS := (gSeq (gSet 2 (fIf (fBl (fBin opLt (fVar 1) (fOpA opLen (fArgs [(fVar 0)])))) (fBin opIx (fVar 0) (fVar 1)) (fBin opAdd (fBin opAdd (fBin opMod (fOpA opInt (fArgs [(fGC (fOpA opSum (fArgs [(fSl (fVar 0) fNoP (fPart (fCst (.int 1))))])))])) (fCst (.int 1000003))) (fBin opMul (fCst (.int k1)) (fVar 1))) (fCst (.int k2))))) (gSeq (gSet 3 (fBin opMul (fBin opMod (fOpA opInt (fArgs [(fOpA opAbs (fArgs [(fVar 2)]))])) (fBin opPow (fBin opPow (fCst (.int 10)) (fCst (.int 60))) (fCst (.int 5)))) (fOpA opInt (fArgs [(fBin opGe (fOpA opAbs (fArgs [(fVar 2)])) (fBin opPow (fCst (.int 10)) (fCst (.int 18))))])))) (gSeq (gSet 4 (fBin opMod (fOpA opInt (fArgs [(fVar 2)])) (fCst (.int 2305843009213693951)))) (gSeq (gRet (fOpA opLst (fArgs [(fVar 3), (fBin opMod (fOpA opInt (fArgs [(fBin opAdd (fBin opAdd (fBin opMul (fVar 4) (fCst (.int k3))) (fBin opMul (fBin opMul (fCst (.int k4)) (fVar 1)) (fVar 1))) (fCst (.int k5)))])) (fCst (.int 2305843009213693921))), (fCst (.int 0))]))) gNil))))
theorem ten300 : ((10 : Int) ^ (60 : Int).toNat) ^ (5 : Int).toNat < ((2 ^ 1000 : Nat) : Int) ∧ 0 < ((10 : Int) ^ (60 : Int).toNat) ^ (5 : Int).toNat := by decide +kernel
theorem sum_ok {xs : List Int} {S : Sto} {env : En} (h : FlS S) (h0 : env[0]? = some (some (.sq (xs.map .int)))) : ∃ t : Int, fGC (fOpA opSum (fArgs [(fSl (fVar 0) fNoP (fPart (fCst (.int 1))))])) env S = .ok (.int t) S := by
  have e1 : cutD (xs.map .int) none (some 1) = (xs.take 1).map .int := by
    unfold cutD
    cases xs with
    | nil => rfl
    | cons x xs =>
      have : HT.sIx ((x :: xs).map D.int).length ((x :: xs).map D.int).length (some 1) = 1 := by
        unfold HT.sIx
        simp
      have h2 : HT.sIx ((x :: xs).map D.int).length 0 none = 0 := rfl
      rw [this, h2]
      rfl
  have e2 : fSl (fVar 0) fNoP (fPart (fCst (.int 1))) env S = .ok (.loc S.n) (S.push (.lst ((xs.take 1).map .int))) := by
    unfold fSl
    rw [var_ok h0]
    show R.of (some (D.loc S.n, S.push (.lst (cutD (xs.map .int) none (some 1))))) = _
    rw [e1]
    rfl
  have fo : flatO (.lst ((xs.take 1).map .int)) = true := by
    cases xs <;> rfl
  refine ⟨(xs.take 1).sum, ?_⟩
  unfold fGC
  rw [opA_ok (d := .int (xs.take 1).sum) (S2 := S.push (.lst ((xs.take 1).map .int))) (args_cons e2 rfl)]
  · exact gc_flat h fo rfl
  · unfold opSum on1 onL rdL
    dsimp only
    rw [Sto.get_push_eq]
    dsimp only
    unfold sumD
    have : intsD ((xs.take 1).map D.int) = some (xs.take 1) := by cases xs <;> rfl
    rw [this]
theorem pot_ok {k1 k2 k3 k4 k5 : Int} {xs : List Int} {S : Sto} {env : En} {place : Nat} (K1 : 0 ≤ k1 ∧ k1 < 2 ^ 20) (K3 : 0 ≤ k3 ∧ k3 < 2 ^ 20) (K4 : 0 ≤ k4 ∧ k4 < 2 ^ 20) (hp : place < 1000) (h : FlS S) (hl : xs.length < 1000)
    (h0 : env[0]? = some (some (.sq (xs.map .int)))) (h1 : env[1]? = some (some (.int place))) :
    ∃ a b, PotB 0 a b 0 ∧ fCall (runF 5 (gPot k1 k2 k3 k4 k5)) (fArgs [fVar 0, fVar 1]) env S = .ok (.loc S.n) (S.push (.lst [.int a, .int b, .int 0])) := by
  obtain ⟨t, ht⟩ := sum_ok (env := [some (.sq (xs.map .int)), some (.int place), none, none, none]) h rfl
  obtain ⟨cell, hcell⟩ : ∃ cell : Int, (fIf (fBl (fBin opLt (fVar 1) (fOpA opLen (fArgs [(fVar 0)])))) (fBin opIx (fVar 0) (fVar 1)) (fBin opAdd (fBin opAdd (fBin opMod (fOpA opInt (fArgs [(fGC (fOpA opSum (fArgs [(fSl (fVar 0) fNoP (fPart (fCst (.int 1))))])))])) (fCst (.int 1000003))) (fBin opMul (fCst (.int k1)) (fVar 1))) (fCst (.int k2)))) [some (.sq (xs.map .int)), some (.int place), none, none, none] S = .ok (.int cell) S := by
    have e1 : fBl (fBin opLt (fVar 1) (fOpA opLen (fArgs [(fVar 0)]))) [some (.sq (xs.map .int)), some (.int place), none, none, none] S = .ok (decide ((place : Int) < ((xs.map D.int).length : Int))) S := rfl
    unfold fIf
    rw [e1]
    show ∃ cell, (if decide ((place : Int) < ((xs.map D.int).length : Int)) = true then _ else _) = _
    by_cases hlt : place < xs.length
    · rw [if_pos (by simp; exact hlt)]
      refine ⟨xs[place], bin_ok (a := .sq (xs.map .int)) (b := .int place) rfl rfl ?_⟩
      show ixD (xs.map .int) S (.int place) = _
      unfold ixD atI ixN
      dsimp only
      rw [if_pos (by omega), if_pos (by rw [List.length_map]; omega)]
      show (match (xs.map D.int)[(place : Int).toNat]? with
        | some d => some (d, S)
        | none => none) = _
      rw [show (place : Int).toNat = place by omega, List.getElem?_map, List.getElem?_eq_getElem hlt]
      rfl
    · rw [if_neg (by simp; omega)]
      refine ⟨t % 1000003 + k1 * place + k2, ?_⟩
      exact bin_ok (a := .int (t % 1000003 + k1 * place)) (b := .int k2) (bin_ok (a := .int (t % 1000003)) (b := .int (k1 * place)) (bin_ok (a := .int t) (b := .int 1000003) (opA_ok (ds := [.int t]) (args_cons ht rfl) rfl) rfl (mod_ok (by omega))) (bin_ok (a := .int k1) (b := .int place) rfl rfl (mul_ok (small_lt (k := 20) (by omega) (by omega)) (small_lt (k := 20) (by omega) (by omega)))) rfl) rfl rfl
  obtain ⟨T1, T0⟩ := ten300
  generalize hT : ((10 : Int) ^ (60 : Int).toNat) ^ (5 : Int).toNat = T at T1 T0
  obtain ⟨fl, hf0, hf1, hf⟩ : ∃ fl : Int, 0 ≤ fl ∧ fl ≤ 1 ∧ fOpA opInt (fArgs [(fBin opGe (fOpA opAbs (fArgs [(fVar 2)])) (fBin opPow (fCst (.int 10)) (fCst (.int 18))))]) [some (.sq (xs.map .int)), some (.int place), some (.int cell), none, none] S = .ok (.int fl) S := by
    refine ⟨if decide ((10 : Int) ^ (18 : Int).toNat ≤ (if cell < 0 then -cell else cell)) = true then 1 else 0, by split <;> omega, by split <;> omega, ?_⟩
    rfl
  have hm0 : 0 ≤ (if cell < 0 then -cell else cell) % T := Int.emod_nonneg _ (by omega)
  have hm1 : (if cell < 0 then -cell else cell) % T < T := Int.emod_lt_of_pos _ T0
  have hown : fBin opMul (fBin opMod (fOpA opInt (fArgs [(fOpA opAbs (fArgs [(fVar 2)]))])) (fBin opPow (fBin opPow (fCst (.int 10)) (fCst (.int 60))) (fCst (.int 5)))) (fOpA opInt (fArgs [(fBin opGe (fOpA opAbs (fArgs [(fVar 2)])) (fBin opPow (fCst (.int 10)) (fCst (.int 18))))])) [some (.sq (xs.map .int)), some (.int place), some (.int cell), none, none] S = .ok (.int ((if cell < 0 then -cell else cell) % T * fl)) S := by
    refine bin_ok (a := .int ((if cell < 0 then -cell else cell) % T)) (b := .int fl) (bin_ok (a := .int (if cell < 0 then -cell else cell)) (b := .int T) rfl ?_ (mod_ok T0)) hf (mul_ok (by omega) (small_lt (k := 20) (by omega) (by omega)))
    have e60 : fBin opPow (fBin opPow (fCst (.int 10)) (fCst (.int 60))) (fCst (.int 5)) [some (.sq (xs.map .int)), some (.int place), some (.int cell), none, none] S = .ok (.int (((10 : Int) ^ (60 : Int).toNat) ^ (5 : Int).toNat)) S := by kernel_rfl
    rw [e60, hT]
  have hs0 : 0 ≤ cell % 2305843009213693951 := Int.emod_nonneg _ (by omega)
  have hs1 : cell % 2305843009213693951 < 2305843009213693951 := Int.emod_lt_of_pos _ (by omega)
  have hsmall : fBin opMod (fOpA opInt (fArgs [(fVar 2)])) (fCst (.int 2305843009213693951)) [some (.sq (xs.map .int)), some (.int place), some (.int cell), some (.int ((if cell < 0 then -cell else cell) % T * fl)), none] S = .ok (.int (cell % 2305843009213693951)) S := bin_ok (a := .int cell) (b := .int 2305843009213693951) rfl rfl (mod_ok (by omega))
  have hk1 : 0 ≤ k4 * place := Int.mul_nonneg K4.1 (by omega)
  have hk2 : k4 * place ≤ 2 ^ 20 * 2 ^ 10 := Int.mul_le_mul (by omega) (by omega) (by omega) (by omega)
  refine ⟨(if cell < 0 then -cell else cell) % T * fl, (cell % 2305843009213693951 * k3 + k4 * place * place + k5) % 2305843009213693921, ⟨Int.mul_nonneg hm0 hf0, ?_, Int.emod_nonneg _ (by omega), by have := Int.emod_lt_of_pos (cell % 2305843009213693951 * k3 + k4 * place * place + k5) (b := 2305843009213693921) (by omega); omega, by omega, by omega⟩, ?_⟩
  · have : fl = 0 ∨ fl = 1 := by omega
    rcases this with z | z
    · rw [z, Int.mul_zero]
      have : (0 : Nat) < 2 ^ 1000 := Nat.pow_pos (by omega)
      simpa using this
    · rw [z, Int.mul_one]
      omega
  · rw [call_ok (ds := [.sq (xs.map .int), .int place]) (S1 := S) (args_cons (var_ok h0) (args_cons (var_ok h1) rfl))]
    show ((gPot k1 k2 k3 k4 k5) [some (.sq (xs.map .int)), some (.int place), none, none, none] S).fin = _
    unfold gPot
    rw [seq_nx (set_ok hcell)]
    rw [show [some (D.sq (xs.map .int)), some (.int place), none, none, none].set 2 (some (.int cell)) = [some (D.sq (xs.map .int)), some (.int place), some (.int cell), none, none] from rfl]
    rw [seq_nx (set_ok hown)]
    rw [show [some (D.sq (xs.map .int)), some (.int place), some (.int cell), none, none].set 3 (some (.int ((if cell < 0 then -cell else cell) % T * fl))) = [some (D.sq (xs.map .int)), some (.int place), some (.int cell), some (.int ((if cell < 0 then -cell else cell) % T * fl)), none] from rfl]
    rw [seq_nx (set_ok hsmall)]
    rw [show [some (D.sq (xs.map .int)), some (.int place), some (.int cell), some (.int ((if cell < 0 then -cell else cell) % T * fl)), none].set 4 (some (.int (cell % 2305843009213693951))) = [some (D.sq (xs.map .int)), some (.int place), some (.int cell), some (.int ((if cell < 0 then -cell else cell) % T * fl)), some (.int (cell % 2305843009213693951))] from rfl]
    rw [seq_rt (ret_ok (opA_ok (ds := [.int ((if cell < 0 then -cell else cell) % T * fl), .int ((cell % 2305843009213693951 * k3 + k4 * place * place + k5) % 2305843009213693921), .int 0]) (args_cons rfl (args_cons (bin_ok (a := .int (cell % 2305843009213693951 * k3 + k4 * place * place + k5)) (b := .int 2305843009213693921) (opA_ok (ds := [.int (cell % 2305843009213693951 * k3 + k4 * place * place + k5)]) (args_cons (bin_ok (a := .int (cell % 2305843009213693951 * k3 + k4 * place * place)) (b := .int k5) (bin_ok (a := .int (cell % 2305843009213693951 * k3)) (b := .int (k4 * place * place)) (bin_ok (a := .int (cell % 2305843009213693951)) (b := .int k3) rfl rfl (mul_ok (small_lt (k := 62) (by omega) (by omega)) (small_lt (k := 20) (by omega) (by omega)))) (bin_ok (a := .int (k4 * place)) (b := .int place) (bin_ok (a := .int k4) (b := .int place) rfl rfl (mul_ok (small_lt (k := 20) (by omega) (by omega)) (small_lt (k := 20) (by omega) (by omega)))) rfl (mul_ok (small_lt (k := 40) (by omega) (by omega)) (small_lt (k := 20) (by omega) (by omega)))) rfl) rfl rfl) rfl) rfl) rfl (mod_ok (by omega))) rfl)) rfl))]
    rfl
end Z
set_option Elab.async false
set_option linter.all false
set_option autoImplicit false
set_option maxRecDepth 100000
set_option maxHeartbeats 2000000
/-! Z46: the plain side: a law that looks at each cell in laps. -/
namespace Z
open PySem PySem.Spec PyProof.Rows L2

theorem bind_ok {α β : Type} {a : α} {S : Sto} {g : α → Sto → R β} : (R.ok a S).bind g = g a S := rfl
theorem callP_ok {F : Fn} {S : Sto} {p : Nat} {a b c a' b' c' : Int} (hg : S.get p = some (.lst [.int a, .int b, .int c])) (h : F [.loc 0] (potS a b c) = .ok (.bl true) (potS a' b' c')) : callP F [.loc p] S = .ok (.bl true) (S.set p (.lst [.int a', .int b', .int c'])) := by
  have e1 : repP p [.loc p] = some [.loc 0] := by
    unfold repP
    dsimp only
    rw [if_pos rfl]
    rfl
  unfold callP
  rw [show placeOf [.loc p] = some p from rfl]
  dsimp only
  rw [hg, e1]
  dsimp only
  rw [if_pos (show flatO (.lst [.int a, .int b, .int c]) = true from rfl)]
  rw [show F [.loc 0] ⟨1, [.lst [.int a, .int b, .int c]], none⟩ = .ok (.bl true) (potS a' b' c') from h]
  dsimp only
  rw [show resP (potS a' b' c') (.bl true) = some (.bl true) from rfl, show (potS a' b' c').get 0 = some (.lst [.int a', .int b', .int c']) from rfl]
  dsimp only
  rw [if_pos (show flatO (.lst [.int a', .int b', .int c']) = true from rfl)]
/-- a lap over a pot -/
def RightOk (F : Fn) (dm : Int) : Prop := ∀ m a b c : Int, m ≤ 50000 → PotB m a b c → ∃ a' c', PotB (m + dm) a' b c' ∧ F [.loc 0] (potS a b c) = .ok (.bl true) (potS a' b c')
theorem laps_loop {F : Fn} {dm : Int} (Rt : RightOk F dm) (hd : 0 ≤ dm) {env0 : En} {p n : Nat} (h2 : ∀ x, (env0.set 3 (some x))[2]? = some (some (.loc p))) : ∀ (j i f : Nat) (S : Sto) (a b c m : Int), i + j = n → n < f + i → n ≤ 1000 → FlS S → S.get p = some (.lst [.int a, .int b, .int c]) → PotB m a b c → m + j * dm ≤ 50000 →
    ∃ S' a' c', fCompL (nxR 0 n) (.nm 3) fYes (fCallP F (fArgs [fVar 2])) env0 S.n f i (S.push (.lst (List.replicate i (.bl true)))) = .ok (.loc S.n) (S'.push (.lst (List.replicate n (.bl true)))) ∧ S'.n = S.n ∧ FlS S' ∧ S'.get p = some (.lst [.int a', .int b, .int c'])
  | 0, i, f, S, a, b, c, m, e, hf, hn, fl, hg, B, hm => by
    have e : i = n := e
    cases f with
    | zero => omega
    | succ f =>
      refine ⟨S, a, c, ?_, rfl, fl, hg⟩
      have nx : nxR 0 n i (S.push (.lst (List.replicate i (.bl true)))) = some none := by
        unfold nxR
        rw [if_neg (by omega)]
      unfold fCompL
      rw [nx, e]
  | j + 1, i, f, S, a, b, c, m, e, hf, hn, fl, hg, B, hm => by
    cases f with
    | zero => omega
    | succ f =>
      have hp := Sto.get_lt hg
      have hj : (0 : Int) ≤ ((j : Nat) : Int) * dm := Int.mul_nonneg (by omega) hd
      have hm2 : m + ((j : Nat) : Int) * dm + dm ≤ 50000 := by
        have z : (((j + 1 : Nat)) : Int) * dm = ((j : Nat) : Int) * dm + dm := by
          rw [Int.natCast_add, Int.add_mul]
          simp
        omega
      have nx : nxR 0 n i (S.push (.lst (List.replicate i (.bl true)))) = some (some (.int (0 + i))) := by
        unfold nxR
        rw [if_pos (by omega)]
      obtain ⟨a1, c1, B1, h1⟩ := Rt m a b c (by omega) B
      have g1 : (S.push (.lst (List.replicate i (.bl true)))).get p = some (.lst [.int a, .int b, .int c]) := by rw [Sto.get_push_lt hp]; exact hg
      have e1 : fCallP F (fArgs [fVar 2]) (env0.set 3 (some (.int (0 + i)))) (S.push (.lst (List.replicate i (.bl true)))) = .ok (.bl true) ((S.set p (.lst [.int a1, .int b, .int c1])).push (.lst (List.replicate i (.bl true)))) := by
        unfold fCallP
        rw [args_cons (var_ok (h2 _)) (show fArgs [] (env0.set 3 (some (.int (0 + i)))) (S.push (.lst (List.replicate i (.bl true)))) = .ok [] _ from rfl)]
        show callP F [.loc p] (S.push (.lst (List.replicate i (.bl true)))) = _
        rw [callP_ok g1 h1, push_set_lt hp]
      obtain ⟨S', a', c', r1, r2, r3, r4⟩ := laps_loop Rt hd h2 j (i + 1) f (S.set p (.lst [.int a1, .int b, .int c1])) a1 b c1 (m + dm) (by omega) (by omega) hn (fl.set rfl) (Sto.get_set_eq hg) B1 (by omega)
      refine ⟨S', a', c', ?_, r2, r3, r4⟩
      have sn : (S.set p (.lst [.int a1, .int b, .int c1])).n = S.n := rfl
      rw [sn] at r1
      rw [← r1]
      conv => lhs; unfold fCompL
      rw [nx]
      dsimp only [Tg.put, fYes, R.quiet, R.bind]
      rw [if_pos rfl, e1]
      dsimp only
      rw [show ((S.set p (.lst [.int a1, .int b, .int c1])).push (.lst (List.replicate i (.bl true)))).get S.n = some (.lst (List.replicate i (.bl true))) from Sto.get_push_eq (S := S.set p (.lst [.int a1, .int b, .int c1]))]
      dsimp only
      rw [if_pos (by rw [List.length_replicate]; omega), rep_snoc]
      rw [show ((S.set p (.lst [.int a1, .int b, .int c1])).push (.lst (List.replicate i (.bl true)))).set S.n (.lst (List.replicate (i + 1) (.bl true))) = (S.set p (.lst [.int a1, .int b, .int c1])).push (.lst (List.replicate (i + 1) (.bl true))) from push_set_eq (S := S.set p (.lst [.int a1, .int b, .int c1]))]
theorem flat_bls : ∀ n : Nat, flatO (.lst (List.replicate n (.bl true))) = true := fun n => by
  show flatDs _ = true
  induction n with
  | zero => rfl
  | succ n ih =>
    rw [List.replicate_succ]
    unfold flatDs
    rw [ih]
    rfl
theorem blsD_rep : ∀ n : Nat, blsD (List.replicate n (.bl true)) = some (List.replicate n true) := fun n => by
  induction n with
  | zero => rfl
  | succ n ih =>
    rw [List.replicate_succ]
    unfold blsD
    rw [ih]
    rfl
theorem laps_ok {F : Fn} {dm : Int} (Rt : RightOk F dm) (hd : 0 ≤ dm) {env : En} {p n : Nat} {S : Sto} {a b c m : Int} (h2 : ∀ x, ((wipeE env [3]).set 3 (some x))[2]? = some (some (.loc p))) (hn : n < 200) (fl : FlS S) (hg : S.get p = some (.lst [.int a, .int b, .int c])) (B : PotB m a b c) (hm : m + n * dm ≤ 50000) :
    ∃ S', fGC (fOpA (opAll fun bs => bs.all id) (fArgs [(fComp [3] (fRng1 (fCst (.int n))) (.nm 3) fYes (fCallP F (fArgs [(fVar 2)])) 200)])) env S = .ok (.bl true) S' ∧ S'.n = S.n ∧ FlS S' := by
  obtain ⟨S', a', c', r1, r2, r3, r4⟩ := laps_loop (n := n) Rt hd h2 n 0 200 S a b c m (Nat.zero_add n) (by omega) (by omega) fl hg B hm
  refine ⟨S', ?_, r2, r3⟩
  have hr : fRng1 (fCst (.int n)) env S = .ok (nxR 0 n) S := by
    have ok : okR (n : Int) = true := by
      unfold okR
      rw [decide_eq_true (by omega), decide_eq_true (by omega)]
      rfl
    have this : rng1 (.int n) = some (0, n) := by
      show (if okR (n : Int) = true then some ((0 : Int), (n : Int).toNat) else none) = _
      rw [if_pos ok]
      rfl
    unfold fRng1 fCst
    rw [bind_ok, this]
    rfl
  have e1 : fComp [3] (fRng1 (fCst (.int n))) (.nm 3) fYes (fCallP F (fArgs [(fVar 2)])) 200 env S = .ok (.loc S.n) (S'.push (.lst (List.replicate n (.bl true)))) := by
    unfold fComp
    rw [hr, bind_ok, show (Ob.lst []) = .lst (List.replicate 0 (.bl true)) from rfl]
    exact r1
  have e2 : fOpA (opAll fun bs => bs.all id) (fArgs [(fComp [3] (fRng1 (fCst (.int n))) (.nm 3) fYes (fCallP F (fArgs [(fVar 2)])) 200)]) env S = .ok (.bl true) (S'.push (.lst (List.replicate n (.bl true)))) := by
    refine opA_ok (args_cons e1 rfl) ?_
    unfold opAll on1 onL rdL
    dsimp only
    rw [← r2, Sto.get_push_eq]
    dsimp only
    unfold allD
    rw [blsD_rep]
    dsimp only
    rw [show (List.replicate n true).all id = true from List.all_eq_true.mpr fun x hx => (List.mem_replicate.mp hx).2]
  unfold fGC
  rw [e2, ← r2]
  exact gc_flat r3 (flat_bls n) rfl
def gLaw (F : Fn) (laps : Int) (k1 k2 k3 k4 k5 : Int) : En → Sto → RS := (gSeq (gFor (fIter (fGC (fCall (runF 2 gCells) (fArgs [(fVar 0), (fCst (.int 3))])))) (.nm 1) (gSeq (gSet 2 (fCall (runF 5 (gPot k1 k2 k3 k4 k5)) (fArgs [(fVar 0), (fVar 1)]))) (gSeq (gIte (fNotT (fTru (fGC (fOpA (opAll fun bs => bs.all id) (fArgs [(fComp [3] (fRng1 (fCst (.int laps))) (.nm 3) fYes (fCallP F (fArgs [(fVar 2)])) 200)]))))) (gSeq (gRet (fCst (.bl false))) gNil) gNil) gNil)) 200) (gSeq (gRet (fCst (.bl true))) gNil))
def gBody (F : Fn) (laps : Int) (k1 k2 k3 k4 k5 : Int) : En → Sto → RS := (gSeq (gSet 2 (fCall (runF 5 (gPot k1 k2 k3 k4 k5)) (fArgs [(fVar 0), (fVar 1)]))) (gSeq (gIte (fNotT (fTru (fGC (fOpA (opAll fun bs => bs.all id) (fArgs [(fComp [3] (fRng1 (fCst (.int laps))) (.nm 3) fYes (fCallP F (fArgs [(fVar 2)])) 200)]))))) (gSeq (gRet (fCst (.bl false))) gNil) gNil) gNil))
theorem body_ok {F : Fn} {dm : Int} (Rt : RightOk F dm) (hd : 0 ≤ dm) {laps : Nat} {k1 k2 k3 k4 k5 : Int} (K1 : 0 ≤ k1 ∧ k1 < 2 ^ 20) (K3 : 0 ≤ k3 ∧ k3 < 2 ^ 20) (K4 : 0 ≤ k4 ∧ k4 < 2 ^ 20) (hn : laps < 200) (hm : laps * dm ≤ 50000) {xs : List Int} (hl : xs.length < 1000) {S : Sto} (fl : FlS S) {place : Nat} (hp : place < 1000) (x : Option D) :
    ∃ S' y, gBody F laps k1 k2 k3 k4 k5 [some (.sq (xs.map .int)), some (.int place), x, none] S = .ok (.nx [some (.sq (xs.map .int)), some (.int place), y, none]) S' ∧ FlS S' := by
  obtain ⟨a, b, B, h⟩ := pot_ok (k1 := k1) (k2 := k2) (k3 := k3) (k4 := k4) (k5 := k5) (env := [some (.sq (xs.map .int)), some (.int place), x, none]) K1 K3 K4 hp fl hl rfl rfl
  obtain ⟨S', h2, _, fl2⟩ := laps_ok (env := [some (.sq (xs.map .int)), some (.int place), some (.loc S.n), none]) (p := S.n) Rt hd (fun _ => rfl) hn (fl.push (o := .lst [.int a, .int b, .int 0]) rfl) Sto.get_push_eq B (by rw [Int.zero_add]; exact hm)
  refine ⟨S', some (.loc S.n), ?_, fl2⟩
  unfold gBody
  rw [seq_nx (set_ok h)]
  rw [show [some (D.sq (xs.map .int)), some (.int place), x, none].set 2 (some (.loc S.n)) = [some (.sq (xs.map .int)), some (.int place), some (.loc S.n), none] from rfl]
  have ht : fNotT (fTru (fGC (fOpA (opAll fun bs => bs.all id) (fArgs [(fComp [3] (fRng1 (fCst (.int laps))) (.nm 3) fYes (fCallP F (fArgs [(fVar 2)])) 200)])))) [some (.sq (xs.map .int)), some (.int place), some (.loc S.n), none] (S.push (.lst [.int a, .int b, .int 0])) = .ok false S' := by
    unfold fNotT fTru
    rw [h2]
    rfl
  rw [seq_nx (env1 := [some (.sq (xs.map .int)), some (.int place), some (.loc S.n), none]) (S1 := S') (by rw [ite_f ht]; rfl)]
  rfl
theorem cells_loop {F : Fn} {dm : Int} (Rt : RightOk F dm) (hd : 0 ≤ dm) {laps : Nat} {k1 k2 k3 k4 k5 : Int} (K1 : 0 ≤ k1 ∧ k1 < 2 ^ 20) (K3 : 0 ≤ k3 ∧ k3 < 2 ^ 20) (K4 : 0 ≤ k4 ∧ k4 < 2 ^ 20) (hn : laps < 200) (hm : laps * dm ≤ 50000) {xs : List Int} (hl : xs.length < 1000) {n : Nat} (hn2 : n ≤ 100) :
    ∀ (j i f : Nat) (S : Sto) (x y : Option D), i + j = n → n < f + i → FlS S →
    ∃ env' S', gForL (nxL (rgD 0 n)) (.nm 1) (gBody F laps k1 k2 k3 k4 k5) f i [some (.sq (xs.map .int)), y, x, none] S = .ok (.nx env') S'
  | 0, i, f, S, x, y, e, hf, fl => by
    have e : i = n := e
    cases f with
    | zero => omega
    | succ f =>
      have nx : nxL (rgD 0 n) i S = some none := by
        unfold nxL
        rw [List.getElem?_eq_none (by unfold rgD; simp; omega)]
      refine ⟨[some (.sq (xs.map .int)), y, x, none], S, ?_⟩
      unfold gForL
      rw [nx]
  | j + 1, i, f, S, x, y, e, hf, fl => by
    cases f with
    | zero => omega
    | succ f =>
      have nx : nxL (rgD 0 n) i S = some (some (.int i)) := by
        unfold nxL rgD
        rw [List.getElem?_map, List.getElem?_range (by omega)]
        show some (some (D.int (0 + (i : Nat)))) = _
        rw [Int.zero_add]
      obtain ⟨S1, y1, e1, fl1⟩ := body_ok Rt hd (k2 := k2) (k5 := k5) K1 K3 K4 hn hm (xs := xs) hl fl (place := i) (by omega) x
      obtain ⟨env', S', r⟩ := cells_loop Rt hd (k2 := k2) (k5 := k5) K1 K3 K4 hn hm hl hn2 j (i + 1) f S1 y1 (some (.int i)) (by omega) (by omega) fl1
      refine ⟨env', S', ?_⟩
      rw [← r]
      conv => lhs; unfold gForL
      rw [nx]
      dsimp only [Tg.put]
      rw [show [some (D.sq (xs.map .int)), y, x, none].set 1 (some (.int i)) = [some (.sq (xs.map .int)), some (.int i), x, none] from rfl, e1]
theorem law_ok {F : Fn} {dm : Int} (Rt : RightOk F dm) (hd : 0 ≤ dm) {laps : Nat} {k1 k2 k3 k4 k5 : Int} (K1 : 0 ≤ k1 ∧ k1 < 2 ^ 20) (K3 : 0 ≤ k3 ∧ k3 < 2 ^ 20) (K4 : 0 ≤ k4 ∧ k4 < 2 ^ 20) (hn : laps < 200) (hm : laps * dm ≤ 50000) {xs : List Int} (hl : xs.length < 1000) :
    ∃ S', runF 4 (gLaw F laps k1 k2 k3 k4 k5) [.sq (xs.map .int)] ⟨0, [], none⟩ = .ok (.bl true) S' := by
  have fl : FlS ⟨0, [], none⟩ := ⟨rfl, rfl, rfl⟩
  obtain ⟨k, hk, hc⟩ := cells_ok (xs := xs) fl hl 3 (by omega)
  obtain ⟨env', S', h⟩ := cells_loop Rt hd (k2 := k2) (k5 := k5) K1 K3 K4 hn hm hl (n := k) (by omega) k 0 200 ⟨0, [], none⟩ none none (by omega) (by omega) fl
  refine ⟨S', ?_⟩
  show ((gLaw F laps k1 k2 k3 k4 k5) [some (.sq (xs.map .int)), none, none, none] ⟨0, [], none⟩).fin = _
  unfold gLaw
  have e1 : fIter (fGC (fCall (runF 2 gCells) (fArgs [(fVar 0), (fCst (.int 3))]))) [some (.sq (xs.map .int)), none, none, none] ⟨0, [], none⟩ = .ok (nxL (rgD 0 k)) ⟨0, [], none⟩ := by
    unfold fIter
    rw [show fGC (fCall (runF 2 gCells) (fArgs [(fVar 0), (fCst (.int 3))])) [some (.sq (xs.map .int)), none, none, none] ⟨0, [], none⟩ = _ from hc]
    rfl
  rw [seq_nx (env1 := env') (S1 := S')]
  · rfl
  · unfold gFor
    rw [e1]
    exact h
end Z
set_option Elab.async false
set_option linter.all false
set_option autoImplicit false
set_option maxRecDepth 100000
set_option maxHeartbeats 2000000
/-! Z47: the plain side: the maker of looks, put together. -/
namespace Z
open PySem PySem.Spec PyProof.Rows L2

def Glo (P : Sto → Prop) (g : En → Sto → RS) (env : En) (S : Sto) : Prop := ∃ S', (g env S).fin = .ok (.bl true) S' ∧ P S'
theorem gl_seq {P : Sto → Prop} {g1 g2 : En → Sto → RS} {env env1 : En} {S S1 : Sto} (h : g1 env S = .ok (.nx env1) S1) (h2 : Glo P g2 env1 S1) : Glo P (gSeq g1 g2) env S := by
  obtain ⟨S', e, p⟩ := h2
  exact ⟨S', by rw [seq_nx h]; exact e, p⟩
theorem gl_ret {P : Sto → Prop} {g2 : En → Sto → RS} {f : FE} {env : En} {S S1 : Sto} (h : f env S = .ok (.bl true) S1) (p : P S1) : Glo P (gSeq (gRet f) g2) env S := ⟨S1, by rw [seq_rt (ret_ok h)]; rfl, p⟩
theorem gl_draw {P : Sto → Prop} {i : Nat} {F : Fn} {fs : En → Sto → R (List D)} {g2 : En → Sto → RS} {env : En} {S S1 S2 : Sto} {ds : List D} {x : D} (h : fs env S = .ok ds S1) (e : F ds S1 = .ok x S2) (k : Glo P g2 (env.set i (some x)) S2) : Glo P (gSeq (gSet i (fCall F fs)) g2) env S :=
  gl_seq (set_ok ((call_ok h).trans e)) k
/-- good, or none of its kind -/
def Item (gd : D) (bads : List D) (nm : Str) (x : D) (li : List D) : Prop := (x = gd ∧ li = []) ∨ (x ∈ bads ∧ li = [.tup [.str nm, x]])
theorem Item.len {gd : D} {bads : List D} {nm : Str} {x : D} {li : List D} (h : Item gd bads nm x li) : li.length ≤ 1 := by
  rcases h with ⟨_, h⟩ | ⟨_, h⟩
  · rw [h]; exact Nat.zero_le _
  · rw [h]; exact Nat.le_refl _
def rpBad (rg : Str) (x : D) : Bool := match rp x with
  | some r => !decide (r = rg)
  | none => false
theorem item_rp {gd : D} {bads : List D} {rg : Str} {n : Nat} {x : D} (nm : Str) (hg : rp gd = some rg) (hb : ∀ x ∈ bads, rpBad rg x = true) (hx : x ∈ List.replicate n gd ++ bads) : ∃ r, rp x = some r ∧ Item gd bads nm x (if r = rg then [] else [.tup [.str nm, x]]) := by
  rcases List.mem_append.mp hx with h | h
  · have e := (List.mem_replicate.mp h).2
    exact ⟨rg, by rw [e]; exact hg, .inl ⟨e, if_pos rfl⟩⟩
  · have z := hb x h
    unfold rpBad at z
    split at z
    · rename_i r hr
      have ne : r ≠ rg := by simpa using z
      exact ⟨r, hr, .inr ⟨h, if_neg ne⟩⟩
    · cases z
def DueB (B : Nat) (S0 : Sto) (f : FE) (env : En) (d : List D) : Prop := ∀ S, (∀ k, k < B → S.get k = S0.get k) → B ≤ S.n → S.Wf → Due B f env S d
theorem dueB_var {B i q : Nat} {S0 : Sto} {env : En} {d : List D} (h : env[i]? = some (some (.loc q))) (hq : q < B) (g : S0.get q = some (.lst d)) : DueB B S0 (fVar i) env d := fun S hb hn wf => due_var h hq ((hb q hq).trans g) wf
theorem dueB_add {B : Nat} {S0 : Sto} {f g : FE} {env : En} {d1 d2 : List D} (h1 : DueB B S0 f env d1) (h2 : DueB B S0 g env d2) (hl : d1.length + d2.length ≤ 1000000) : DueB B S0 (fBin opAdd f g) env (d1 ++ d2) :=
  fun S hb hn wf => due_add (h1 S hb hn wf) (fun S' kp wf' => h2 S' (fun k hk => (kp.same k (Nat.lt_of_lt_of_le hk hn)).trans (hb k hk)) (Nat.le_trans hn kp.le) wf') hl
theorem DueB.at {B L : Nat} {S0 S : Sto} {f : FE} {env : En} {d : List D} {ls : List Lk} (h : DueB B S0 f env d) (lk : Lks B S0 S L ls) : Due B f env S d := h S lk.base (Nat.le_of_lt (Nat.lt_of_le_of_lt lk.le lk.lt)) lk.wf
theorem DueB.at0 {B : Nat} {S0 : Sto} {f : FE} {env : En} {d : List D} (h : DueB B S0 f env d) (hn : B ≤ S0.n) (wf : S0.Wf) : Due B f env S0 d := h S0 (fun _ _ => rfl) hn wf
/-- what a look is to keep -/
def LkF (F : Fn) (vals : List (Str × D)) (p : Lk) : Prop := p.due.length ≤ 100 ∧ nlD 9 (hdD p.due) = true ∧ isT (F [.lam p.k, hdD p.due] ⟨0, [], some vals⟩) = true
theorem lkF_one {F : Fn} {vals : List (Str × D)} {p : Lk} (h : LkF F vals p) : ∀ q ∈ [p], LkF F vals q := fun q hq => by rw [List.mem_singleton.mp hq]; exact h
theorem lkF_snoc {F : Fn} {vals : List (Str × D)} {ls : List Lk} {p : Lk} (h1 : ∀ q ∈ ls, LkF F vals q) (h : LkF F vals p) : ∀ q ∈ ls ++ [p], LkF F vals q := fun q hq => by
  rcases List.mem_append.mp hq with z | z
  · exact h1 q z
  · rw [List.mem_singleton.mp z]; exact h
/-- the maker over a pot -/
theorem runM_ok {n : Nat} {g : En → Sto → RS} {a b c a' c' : Int} (h : Glo (fun S' => S'.Wf ∧ S'.get 0 = some (.lst [.int a', .int b, .int c'])) g (startE n [.loc 0]) (potS a b c)) : runM n g [.loc 0] (potS a b c) = .ok (.bl true) (potS a' b c') := by
  obtain ⟨S', e, wf, g0⟩ := h
  unfold runM
  rw [if_pos ⟨rfl, rfl, rfl⟩]
  rw [show (potS a b c).cut (potS a b c).n = potS a b c from rfl, e]
  dsimp only
  rw [if_pos ⟨rfl, okS_one wf g0 rfl⟩]
  rw [show (potS a b c).n = 1 from rfl, cut_one wf g0]
  rfl
end Z
set_option Elab.async false
set_option linter.all false
set_option autoImplicit false
set_option maxRecDepth 100000
set_option maxHeartbeats 2000000
/-! Z48: the law's end: a def by a run, called with the script. -/
namespace Z
open PySem PySem.Spec PyProof.Rows L2

/-- what may be tracked where the law is called: the tables of code objects, the script -/
def hpE (K : PySem.W.Frag) (ts : List Addr) (a : Addr) (vs : List Value) (ns : List Int) : Hp := fun b => if b ∈ ts then some (.tbl #[]) else if b = a ∧ (K.lookup a).isNone = true then some (.frz { cls := .type "list", data := .seq vs.toArray } (.lst (ns.map V.int))) else none
/-- .. and nothing else -/
theorem hpE_cases {K : PySem.W.Frag} {ts : List Addr} {a b : Addr} {vs : List Value} {ns : List Int} {o : HO} (h : hpE K ts a vs ns b = some o) : (b ∈ ts ∧ o = .tbl #[]) ∨ (b ∉ ts ∧ b = a ∧ K.lookup a = none ∧ o = .frz { cls := .type "list", data := .seq vs.toArray } (.lst (ns.map V.int))) := by
  unfold hpE at h
  by_cases hb : b ∈ ts
  · rw [if_pos hb] at h
    exact .inl ⟨hb, (Option.some.inj h).symm⟩
  · rw [if_neg hb] at h
    by_cases h2 : b = a ∧ (K.lookup a).isNone = true
    · rw [if_pos h2] at h
      exact .inr ⟨hb, h2.1, Option.isNone_iff_eq_none.mp h2.2, (Option.some.inj h).symm⟩
    · rw [if_neg h2] at h
      cases h
/-- the state at the call, as the layer wants it -/
theorem startE0 {P : Program} {w : World} {K : PySem.W.Frag} {mg mb : Str → Option Value} {cs : List (Addr × Addr)} {a : Addr} {s : Shared} {vs : List Value} {ns : List Int}
    (kin : K.In s.heap) (glob : s.heap.Ns mainGlobals mg) (bl : s.heap.Ns builtinsNs mb) (bl2 : ∀ x : Str, x ≠ "__name__" → mb x = bootBuiltins x) (lim : s.heap.NoLimit) (gens : s.gens = #[])
    (emp : ∀ p ∈ cs, s.heap.get? p.2 = some { cls := .none, data := .fields #[] }) (out : ∀ p ∈ cs, K.lookup p.2 = none) (code : ∀ p ∈ cs, PySem.W.CodeHd s.heap p.1 p.2)
    (mod : ∃ (bm : Addr) (ob : Obj), mg "__builtins__" = some (.ref bm) ∧ bm ≠ builtinsNs ∧ s.heap.get? bm = some ob ∧ ob.cls = .type "module" ∧ ob.dict = some builtinsNs ∧ ob.data = .plain)
    (ga : s.heap.get? a = some { cls := .type "list", data := .seq vs.toArray }) (isI : IntsAre vs ns) (len : ns.length ≤ sizeLine) :
    ∃ base : Heap, Env0 P w K mg base callerA [] s (hpE K (cs.map (·.2)) a vs ns) ∧ (∀ p ∈ cs, LamX.TabB base mg p.1 p.2) ∧ SqL K (hpE K (cs.map (·.2)) a vs ns) a (ns.map V.int) ∧ a ∉ cs.map (·.2) := by
  have rv := vals_ints isI
  have inT : ∀ b, b ∈ cs.map (·.2) → s.heap.get? b = some { cls := .none, data := .fields #[] } := fun b hb => by
    obtain ⟨p, hp, rfl⟩ := List.mem_map.mp hb
    exact emp p hp
  have aT : a ∉ cs.map (·.2) := fun hb => by
    have z := (inT a hb).symm.trans ga
    cases z
  obtain ⟨base, bsz, bget, bput⟩ := cutHeap s.heap fun b => (hpE K (cs.map (·.2)) a vs ns b).isNone
  -- what is neither an empty table nor a list stands in the base
  have stays : ∀ {b : Addr} {o : Obj}, s.heap.get? b = some o → (b ∈ cs.map (·.2) → False) → (b = a → K.lookup a = none → False) → hpE K (cs.map (·.2)) a vs ns b = none := fun {b o} e h1 h2 => by
    cases q : hpE K (cs.map (·.2)) a vs ns b with
    | none => rfl
    | some u =>
      rcases hpE_cases q with ⟨hb, _⟩ | ⟨_, hb, hk, _⟩
      · exact (h1 hb).elim
      · exact (h2 hb hk).elim
  have keepD : ∀ {b : Addr} {o : Obj}, s.heap.get? b = some o → o.data ≠ .fields #[] → (∀ n, o.data ≠ .seq vs.toArray n) → base.get? b = some o := fun {b o} e h1 h2 => by
    refine bput b o e ?_
    rw [stays e (fun hb => ?_) fun hb _ => ?_]
    · rfl
    · have z := (inT b hb).symm.trans e
      exact h1 (congrArg Obj.data (Option.some.inj z)).symm
    · rw [hb, ga] at e
      exact h2 _ (congrArg Obj.data (Option.some.inj e)).symm
  have nsB : ∀ {b : Addr} {m : Str → Option Value}, s.heap.Ns b m → base.Ns b m := fun {b m} ⟨o, es, ep, e, d, r⟩ => ⟨o, es, ep, keepD e (by rw [d]; intro z; cases z) (by rw [d]; intro n z; cases z), d, r⟩
  have hK : K.In base := fun b o e => bput b o (kin b o e) (by
    rw [stays (kin b o e) (fun hb => ?_) fun hb hk => ?_]
    · rfl
    · obtain ⟨p, hp, rfl⟩ := List.mem_map.mp hb
      rw [out p hp] at e
      cases e
    · rw [hb, hk] at e
      cases e)
  refine ⟨base, ⟨rfl, ⟨hK, nsB glob, ⟨mb, nsB bl, bl2⟩, let ⟨m, h1, h2⟩ := lim; ⟨m, nsB h1, h2⟩⟩, fun b o e => ⟨(bget b o e).1, Option.isNone_iff_eq_none.mp (bget b o e).2⟩, Nat.le_of_eq bsz, trivial, fun b hb => absurd (show b ∈ ([] : List Addr) from hb) (by simp), fun b u e => ?_, .of_eq gens⟩, fun p hp => ?_, ?_, aT⟩
  · rcases hpE_cases e with ⟨hb, rfl⟩ | ⟨_, rfl, _, rfl⟩
    · exact inT b hb
    · exact ⟨ga, by rw [List.length_map]; exact len, vs, _, rv, ga⟩
  · obtain ⟨o, us, r⟩ := code p hp
    obtain ⟨file, tf, flags, tg, inF, text, tt, g1, g2, g3, g4, g5⟩ := r
    refine ⟨⟨o, us, file, tf, flags, tg, inF, text, tt, keepD g1 (fun z => ?_) (fun n z => ?_), g2, g3, g4, g5⟩, ?_, fun z => ?_⟩
    · rw [g3] at z
      cases z
      simp at g4
    · rw [g3] at z
      cases z
    · obtain ⟨bm, ob, b1, b2, b3, b4, b5, b6⟩ := mod
      refine ⟨bm, ob, b1, b2, fun z => ?_, fun z => ?_, keepD b3 (by rw [b6]; intro z; cases z) (by rw [b6]; intro n z; cases z), b4, b5, b6⟩
      · obtain ⟨o2, es, ep, e2, d2, _⟩ := glob
        rw [← z, b3] at e2
        cases e2
        rw [b6] at d2
        cases d2
      · have q := emp p hp
        rw [← z, b3] at q
        cases q
        cases b6
    · obtain ⟨o2, es, ep, e2, d2, _⟩ := glob
      rw [z, emp p hp] at e2
      cases e2
      cases d2
  · cases q : K.lookup a with
    | none => exact .inl (.inr ⟨{ cls := .type "list", data := .seq vs.toArray }, (if_neg aT).trans (if_pos ⟨rfl, by rw [q]; rfl⟩)⟩)
    | some o =>
      have z := (kin a o q).symm.trans ga
      cases z
      exact .inr ⟨_, vs.toArray, _, q, rfl, rfl, rfl, by rw [List.size_toArray, isI.length]; exact len, by simpa using rv⟩
theorem law_z {P : Program} {w : World} {K : PySem.W.Frag} {mg mb : Str → Option Value} {k : Nat} {fa a : Addr} {cs : List (Addr × Addr)} {sp : Sp} {s : Shared} {vs : List Value} {ns : List Int}
    (kin : K.In s.heap) (glob : s.heap.Ns mainGlobals mg) (bl : s.heap.Ns builtinsNs mb) (bl2 : ∀ x : Str, x ≠ "__name__" → mb x = bootBuiltins x) (lim : s.heap.NoLimit) (gens : s.gens = #[])
    (emp : ∀ p ∈ cs, s.heap.get? p.2 = some { cls := .none, data := .fields #[] }) (out : ∀ p ∈ cs, K.lookup p.2 = none) (code : ∀ p ∈ cs, PySem.W.CodeHd s.heap p.1 p.2)
    (mod : ∃ (bm : Addr) (ob : Obj), mg "__builtins__" = some (.ref bm) ∧ bm ≠ builtinsNs ∧ s.heap.get? bm = some ob ∧ ob.cls = .type "module" ∧ ob.dict = some builtinsNs ∧ ob.data = .plain)
    (ga : s.heap.get? a = some { cls := .type "list", data := .seq vs.toArray }) (isI : IntsAre vs ns) (len : ns.length ≤ sizeLine) (room : RoomG k callerA)
    (F : ∀ base : Heap, K.In base → base.Ns mainGlobals mg → (∀ p ∈ cs, LamX.TabB base mg p.1 p.2) → ∃ fd ps, FnZ P w K mg base k fa fd ps sp ∧ Binds K fd ps [])
    (hsp : ∀ H : Hp, (∀ p ∈ cs, H p.2 = some (.tbl #[])) → SqL K H a (ns.map V.int) → sp [.ref a] H (fun v _ => v = .bl true) fun _ _ _ => False) :
    codeAny (model P w) callerA (.call (.ref fa) ⟨[.ref a], []⟩) (fun r s' => r = .ok (.ret (.bool true)) ∧ OldK s.heap s'.heap ∧ s'.os = s.os ∧ AllBare s'.gens) s := by
  obtain ⟨base, e0, tb, sq, aT⟩ := startE0 (P := P) (w := w) kin glob bl bl2 lim gens emp out code mod ga isI len
  have tbl : ∀ p ∈ cs, hpE K (cs.map (·.2)) a vs ns p.2 = some (.tbl #[]) := fun p hp => if_pos (List.mem_map.mpr ⟨p, hp, rfl⟩)
  have okH := e0.hok
  obtain ⟨fd, ps, F0, bind⟩ := F base e0.mod.kin e0.mod.glob tb
  have hl := F0.len _ _ _ _ (hsp _ tbl sq)
  have b := bind s [.ref a] kin hl
  rw [List.append_nil] at b
  refine codeAny_mono (F0.run callerA [] s _ ⟨[.ref a], []⟩ [.ref a] [.ref a] _ _ room e0 b (.cons rfl .nil) (hsp _ tbl sq)) fun r s' h => ?_
  cases r with
  | error e =>
    obtain ⟨_, _, _, _, _, _, _, _, _, _, _, _, z⟩ := h
    exact z.elim
  | ok fl =>
    cases fl with
    | next => exact False.elim h
    | brk => exact False.elim h
    | cont => exact False.elim h
    | ret u =>
      obtain ⟨v, H', os, bare, un, okH', ru, ev⟩ := h
      have ev : v = .bl true := ev
      subst ev
      obtain rfl : u = Value.bool true := ru
      have grow : ∀ p ∈ cs, ∃ more : Array Value, s'.heap.get? p.2 = some { cls := .none, data := .fields more } := fun p hp => by
        obtain ⟨more, z⟩ := un.tbls p.2 #[] (tbl p hp)
        exact ⟨_, okH' p.2 _ z⟩
      have kept : ∀ b o, b ∉ cs.map (·.2) → s.heap.get? b = some o → s'.heap.get? b = some o := fun b o nb e => by
        cases q : hpE K (cs.map (·.2)) a vs ns b with
        | none => exact un.keep b o e q (fun z => absurd (show b ∈ ([] : List Addr) from z) (by simp)) (by simp)
        | some u =>
          rcases hpE_cases q with ⟨hb, _⟩ | ⟨_, _, _, rfl⟩
          · exact (nb hb).elim
          · have z1 := (okH b _ q).1
            have z2 := (okH' b _ (un.frzs b _ _ q)).1
            rw [e] at z1
            cases z1
            exact z2
      refine ⟨rfl, ⟨fun b o e => ?_, fun b o e => ?_⟩, os, bare⟩
      · by_cases hb : b ∈ cs.map (·.2)
        · obtain ⟨p, hp, rfl⟩ := List.mem_map.mp hb
          obtain ⟨more, hm⟩ := grow p hp
          have z := (emp p hp).symm.trans e
          cases z
          exact .inr (.inl ⟨((code p hp).tab (emp p hp)).isCodeTable, rfl, #[], more, rfl, by rw [Array.empty_append]; exact hm⟩)
        · exact .inl (kept b o hb e)
      · by_cases hb : b ∈ cs.map (·.2)
        · obtain ⟨p, hp, rfl⟩ := List.mem_map.mp hb
          obtain ⟨more, hm⟩ := grow p hp
          exact ⟨_, hm⟩
        · exact ⟨o, kept b o hb e⟩
/-- a law by a run: what the head's facts are to give -/
def LawZ (l : PySem.W.OpenLaw) (w : World) (mg : Str → Option Value) (fa : Addr) (h : Heap) (n : Nat) : Prop :=
  ∃ (K : PySem.W.Frag) (k : Nat) (cs : List (Addr × Addr)) (sp : Sp), K.In h ∧ RoomG k callerA ∧ (∀ p ∈ cs, h.get? p.2 = some { cls := .none, data := .fields #[] }) ∧ (∀ p ∈ cs, K.lookup p.2 = none) ∧ (∀ p ∈ cs, PySem.W.CodeHd h p.1 p.2) ∧
    (∀ (H : Hp) (a : Addr) (ns : List Int), ns.length ≤ n → (∀ p ∈ cs, H p.2 = some (.tbl #[])) → SqL K H a (ns.map V.int) → sp [.ref a] H (fun v _ => v = .bl true) fun _ _ _ => False) ∧
    ∀ base : Heap, K.In base → base.Ns mainGlobals mg → (∀ p ∈ cs, LamX.TabB base mg p.1 p.2) → ∃ fd ps, FnZ l.prog w K mg base k fa fd ps sp ∧ Binds K fd ps []
theorem walk_z {l : PySem.W.OpenLaw} {n : Nat} {q : Program} {loose : List Str} {XP : (Str → Option Value) → Heap → Prop} {YP : World → Heap → Prop} {d : DefRec} (hn : l.most = some n) (hn2 : n ≤ sizeLine) (hdf : d.params.defaults = [])
    (F : ∀ (w : World) (mg : Str → Option Value) (fa : Addr) (h : Heap), YP w h → h.Ns mainGlobals mg → mg d.name = some (.ref fa) → LawZ l w mg fa h n) : PySem.W.WalkO q loose XP YP l.row.toRowW d [] (fun f vs => PySem.call f vs) :=
  Att.attach_callB hn hdf fun w s₀ s₁ mg mb fa o pm cd doc a vs ns G Y ho hd hcd hmg hobj hints hlen hbits hg => by
    obtain ⟨K, k, cs, sp, kin, room, emp, out, code, hsp, F1⟩ := F w mg fa _ Y G.T.g hmg
    exact law_z kin G.T.g G.T.b G.T.builtins G.T.nolimit hg emp out code G.T.bmain hobj hints (Nat.le_trans hlen hn2) room F1 fun H hH hS => hsp H a ns hlen hH hS
end Z
set_option Elab.async false
set_option linter.all false
set_option autoImplicit false
set_option maxRecDepth 100000
set_option maxHeartbeats 2000000
/-! Z49: the head: what is looked at behind the top; the classes of exceptions, constants. -/
namespace Z
open PySem PySem.Spec PyProof.Rows L2

/-! ### the part of the heap that is looked at -/
def asZ (g : Addr → Option Obj) : Nat → List Addr
  | 0 => [mainGlobals, cStatics]
  | n + 1 => He.growD g (asZ g n)
abbrev KZ (g : Addr → Option Obj) (n : Nat) : PySem.W.Frag := He.frT g (asZ g n)
abbrev IniV : Type := Option (Str × Str × Arguments × FuncBody × Scope × Addr × List Str × Addr)
/-- the class's __init__ -/
def iniAt (K : PySem.W.Frag) (x : Str) : Addr := He.ma K (He.ga K x) "__init__"
def iniObs (x : Str) (K : PySem.W.Frag) : IniV := match K.lookup (iniAt K x) with
  | some ⟨_, _, .func fd, _⟩ => some (fd.name, fd.qualname, fd.params, fd.body, fd.scope, fd.globals, fd.closure.map (·.1), fd.builtins)
  | _ => none
abbrev AlZ : Type := He.AlX × IniV
def obsZ (n : Nat) (fa : List He.Fa) (fn : List He.DefD) (tf : List He.Defn) (ex : PySem.W.Frag → Bool) (x : Str) (g : Addr → Option Obj) : AlZ :=
  ((He.obsT fa fn [] (KZ g n), ex (KZ g n) && He.tabsB g tf (KZ g n)), iniObs x (KZ g n))
def valZ (fn : List He.DefD) (iv : IniV) (w : World) : AlZ := (He.valX fn [] w, iv)
theorem sayZ {n : Nat} {fa : List He.Fa} {fn : List He.DefD} {tf : List He.Defn} {ex : PySem.W.Frag → Bool} {x : Str} {iv : IniV} {w : World} {h : Heap} (e : obsZ n fa fn tf ex x h.get? = valZ fn iv w) : He.SaysX fa fn [] tf ex w h (KZ h.get? n) ∧ iniObs x (KZ h.get? n) = iv := by
  have e0 : (He.obsT fa fn [] (KZ h.get? n), ex (KZ h.get? n) && He.tabsB h.get? tf (KZ h.get? n)) = He.valX fn [] w := congrArg (fun z : AlZ => z.1) e
  have e2 := congrArg (fun z : He.AlX => z.2) e0
  obtain ⟨more, tabs⟩ := He.ba (show (ex (KZ h.get? n) && He.tabsB h.get? tf (KZ h.get? n)) = true from e2)
  have each := List.all_eq_true.mp tabs
  refine ⟨⟨congrArg (fun z : He.AlX => z.1) e0, more, fun p hp => (He.ba (each p hp)).1, fun p hp => ?_, fun p hp => ?_⟩, congrArg (fun z : AlZ => z.2) e⟩
  · have z := (He.ba (each p hp)).2
    split at z
    · rename_i o q
      exact He.frT_none q z
    · cases z
  · have z := (He.ba (each p hp)).2
    split at z
    · rename_i o q
      rw [q, He.emptyTab_eq z]
    · cases z
def hookZ (n : Nat) (fa : List He.Fa) (fn : List He.DefD) (tf : List He.Defn) (ex : PySem.W.Frag → Bool) (x : Str) (iv : IniV) : PySem.W.Hook where
  α := AlZ
  obs := fun s => obsZ n fa fn tf ex x s.heap.get?
  val := fun w => valZ fn iv w
  says := fun w h => ∃ K : PySem.W.Frag, K.In h ∧ He.SaysX fa fn [] tf ex w h K ∧ iniObs x K = iv
  of := fun _ _ e => ⟨_, He.frT_in, sayZ e⟩
  keeps := fun _ _ _ ⟨K, hK, c, i⟩ k => ⟨K, PySem.W.Frag.In.keeps hK k, ⟨c.t, c.more, c.hd, c.out, fun p hp => k _ _ (c.empty p hp)⟩, i⟩
theorem obsZ_eq {n : Nat} {fa : List He.Fa} {fn : List He.DefD} {tf : List He.Defn} {ex : PySem.W.Frag → Bool} {x : Str} {iv : IniV} {g : Addr → Option Obj} {s : Shared} (h : ∀ a, g a = s.heap.get? a) : obsZ n fa fn tf ex x g = (hookZ n fa fn tf ex x iv).obs s := by
  have e : g = s.heap.get? := funext h
  rw [e]
  rfl

/-! ### constants -/
section
variable {W : Wd} {mg : Str → Option Value} {h : Heap}
theorem glc_int {x : Str} {i : Int} (kin : W.K.In h) (G : h.Ns mainGlobals mg) (c : (He.Fa.int x i).ok W.K = true) : GlC W mg x (.int i) := by
  obtain ⟨t, e⟩ := He.int_ok kin G c
  exact ⟨.int i, ⟨_, e, ⟨t, rfl⟩⟩, fun _ _ _ => of_int⟩
theorem glc_str {x z : Str} (kin : W.K.In h) (G : h.Ns mainGlobals mg) (c : (He.Fa.str x z).ok W.K = true) : GlC W mg x (.str z) := by
  obtain ⟨t, e⟩ := He.str_ok kin G c
  exact ⟨.str z, ⟨_, e, ⟨t, rfl⟩⟩, fun _ _ _ => of_str⟩
/-- a tuple of texts, of numbers -/
inductive Ct where
  | s (x : Str)
  | i (i : Int)
def Ct.d : Ct → D
  | .s x => .str x
  | .i k => .int k
def Ct.v : Ct → V
  | .s x => .str x
  | .i k => .int k
def ctB : List Ct → List Value → Bool
  | [], [] => true
  | .s x :: cs, .str y _ :: vs => decide (x = y) && ctB cs vs
  | .i i :: cs, .int j _ :: vs => decide (i = j) && ctB cs vs
  | _, _ => false
theorem ctB_ok : ∀ {cs : List Ct} {vs : List Value}, ctB cs vs = true → Vals (cs.map Ct.v) vs
  | [], [], _ => .nil
  | .s x :: cs, .str y t :: vs, h => by
    obtain ⟨h1, h2⟩ := He.ba (show (decide (x = y) && ctB cs vs) = true from h)
    have e := of_decide_eq_true h1
    subst e
    exact .cons (show RelV (.str x) (.str x t) from ⟨t, rfl⟩) (ctB_ok h2)
  | .i i :: cs, .int j t :: vs, h => by
    obtain ⟨h1, h2⟩ := He.ba (show (decide (i = j) && ctB cs vs) = true from h)
    have e := of_decide_eq_true h1
    subst e
    exact .cons (show RelV (.int i) (.int i t) from ⟨t, rfl⟩) (ctB_ok h2)
  | [], _ :: _, h => by cases h
  | .s _ :: _, [], h => by cases h
  | .i _ :: _, [], h => by cases h
  | .s _ :: _, .int _ _ :: _, h => by cases h
  | .i _ :: _, .str _ _ :: _, h => by cases h
  | .s _ :: _, .none :: _, h => by cases h
  | .i _ :: _, .none :: _, h => by cases h
  | .s _ :: _, .bool _ :: _, h => by cases h
  | .i _ :: _, .bool _ :: _, h => by cases h
  | .s _ :: _, .ref _ :: _, h => by cases h
  | .i _ :: _, .ref _ :: _, h => by cases h
  | .s _ :: _, .type _ :: _, h => by cases h
  | .i _ :: _, .type _ :: _, h => by cases h
  | .s _ :: _, .builtin _ :: _, h => by cases h
  | .i _ :: _, .builtin _ :: _, h => by cases h
  | .s _ :: _, .bytes _ _ :: _, h => by cases h
  | .i _ :: _, .bytes _ _ :: _, h => by cases h
  | .s _ :: _, .float _ _ :: _, h => by cases h
  | .i _ :: _, .float _ _ :: _, h => by cases h
def tupB (K : PySem.W.Frag) (x : Str) (cs : List Ct) : Bool := match PySem.W.nsIn K mainGlobals x with
  | some (some (.ref a)) => (match K.lookup a with
    | some ⟨.type t, none, .seq its _, _⟩ => decide (t = "tuple") && (decide (its.size ≤ 1000) && ctB cs its.toList)
    | _ => false)
  | _ => false
theorem cts_rel {H : Hp} {m : Nat → Addr} {n : Nat} : ∀ cs : List Ct, RelDs W H m n (cs.map Ct.d) (cs.map Ct.v)
  | [] => by unfold RelDs; rfl
  | .s x :: cs => by
    unfold RelDs
    exact ⟨V.str x, _, rfl, (of_str : RelD W H m n (.str x) (.str x)), cts_rel cs⟩
  | .i x :: cs => by
    unfold RelDs
    exact ⟨V.int x, _, rfl, (of_int : RelD W H m n (.int x) (.int x)), cts_rel cs⟩
theorem glc_tup {x : Str} {cs : List Ct} (kin : W.K.In h) (G : h.Ns mainGlobals mg) (c : tupB W.K x cs = true) : GlC W mg x (.ktp (cs.map Ct.d)) := by
  unfold tupB at c
  split at c
  · rename_i a e
    split at c
    · rename_i t its k sl lk
      obtain ⟨h1, h2⟩ := He.ba c
      obtain ⟨h3, h4⟩ := He.ba h2
      have et := of_decide_eq_true h1
      subst et
      refine ⟨.ref a, ⟨_, PySem.W.mg_of kin G e, rfl⟩, fun H m n => ?_⟩
      unfold RelD
      exact ⟨a, cs.map Ct.v, rfl, ⟨_, its, k, lk, rfl, rfl, rfl, Nat.le_trans (of_decide_eq_true h3) (Nat.le_trans (by omega) line1000000), ctB_ok h4⟩, cts_rel cs⟩
    · cases c
  · cases c
end
/-! ### classes of exceptions -/
def oexB (K : PySem.W.Frag) (C : Addr) : Bool := (match K.lookup C with
  | some ⟨.type t, _, .cls cd, sl⟩ => t == "type" && (cd.hasDict && (match cd.mro, sl.toList with
    | .ref C' :: bm, [_, _, _, _, some (.builtin n), _] => C' == C && (n == "ValueError.__new__" && (!cd.hasDel && PySem.HandSPX.refsVE bm))
    | _, _ => false))
  | _ => false) && (decide (PySem.W.findIn K (.ref C) "__setattr__" = some (some (.builtin "object.__setattr__"))) && (decide (PySem.W.subIn K (.ref C) (.type "BaseException") = some true) && (decide (PySem.W.typeIn K (.ref C) = some (.type "type")) && PySem.W.keepIn K (.ref C))))
theorem oexB_ok {K : PySem.W.Frag} {C : Addr} (h : oexB K C = true) : OexC K C := by
  unfold oexB at h
  obtain ⟨h1, h⟩ := He.ba h
  obtain ⟨h2, h⟩ := He.ba h
  obtain ⟨h3, h⟩ := He.ba h
  obtain ⟨h4, h5⟩ := He.ba h
  refine ⟨?_, of_decide_eq_true h2, of_decide_eq_true h3, of_decide_eq_true h4, h5⟩
  split at h1
  · rename_i t dd cd sl lk
    obtain ⟨ht, h1⟩ := He.ba h1
    obtain ⟨hd, h1⟩ := He.ba h1
    split at h1
    · rename_i C' bm k0 k1 k2 k3 nn k5 hm hs
      obtain ⟨e1, h1⟩ := He.ba h1
      obtain ⟨e2, h1⟩ := He.ba h1
      obtain ⟨e3, e4⟩ := He.ba h1
      have e1 := eq_of_beq e1
      have e2 := eq_of_beq e2
      have et := eq_of_beq ht
      subst e1 e2 et
      obtain ⟨nm, bs, mro, ns, qn, hdd, sn, sub, ab, col, del⟩ := cd
      dsimp only at hm hd e3
      subst hm hd
      have e3 : del = false := by simpa using e3
      subst e3
      have esl : sl = #[k0, k1, k2, k3, some (.builtin "ValueError.__new__"), k5] := Array.ext' (by rw [hs])
      subst esl
      exact ⟨nm, qn, ns, bs, bm, sn, sub, ab, col, dd, k0, k1, k2, k3, k5, lk, e4⟩
    · cases h1
  · cases h1
def supB (K : PySem.W.Frag) (C D : Addr) : Bool := oexB K C && (decide (PySem.W.ks_superIn K C D "__init__" = some (some (.builtin "ValueError.__init__"))) && (decide (PySem.W.mroIn K C (.ref D) = some true) && (decide (PySem.W.subIn K (.ref C) (.type "ValueError") = some true) && decide (PySem.W.findIn K (.ref C) "value" = some none))))
theorem supB_ok {K : PySem.W.Frag} {C D : Addr} (h : supB K C D = true) : SupC K C D := by
  unfold supB at h
  obtain ⟨h1, h⟩ := He.ba h
  obtain ⟨h2, h⟩ := He.ba h
  obtain ⟨h3, h⟩ := He.ba h
  obtain ⟨h4, h5⟩ := He.ba h
  exact ⟨oexB_ok h1, of_decide_eq_true h2, of_decide_eq_true h3, of_decide_eq_true h4, of_decide_eq_true h5⟩
/-- the classes by their names; the first is the base of the others -/
def caOf (K : PySem.W.Frag) (b : Str) (names : List Str) (k : Nat) : Addr := He.ga K ((names[k]?).getD b)
def clsB (K : PySem.W.Frag) (b : Str) (names : List Str) : Bool := xcB K (He.ga K b) && (decide (PySem.W.typeIn K (.ref (iniAt K b)) = some (.type "function")) && names.all fun x => supB K (He.ga K x) (He.ga K b) && (xcB K (He.ga K x) &&
  (decide (PySem.W.findIn K (.ref (He.ga K x)) "__init__" = some (some (.ref (iniAt K b)))) && (decide (PySem.W.kitOne K (.type "NoneType") (.ref (He.ga K x)) = some false) && (decide (PySem.W.exmOne K (.ref (He.ga K x)) (.ref (He.ga K b)) = some true) &&
    (x == b || names.all fun y => decide (PySem.W.kitOne K (.ref (He.ga K y)) (.ref (He.ga K x)) = some (y == x))))))))
structure ClsF (K : PySem.W.Frag) (b : Str) (names : List Str) : Prop where
  xb : XC K (He.ga K b)
  ty : PySem.W.typeIn K (.ref (iniAt K b)) = some (.type "function")
  sup : ∀ x ∈ names, SupC K (He.ga K x) (He.ga K b)
  xc : ∀ x ∈ names, XC K (He.ga K x)
  ini : ∀ x ∈ names, PySem.W.findIn K (.ref (He.ga K x)) "__init__" = some (some (.ref (iniAt K b)))
  non : ∀ x ∈ names, PySem.W.kitOne K (.type "NoneType") (.ref (He.ga K x)) = some false
  exm : ∀ x ∈ names, PySem.W.exmOne K (.ref (He.ga K x)) (.ref (He.ga K b)) = some true
  kit : ∀ x ∈ names, x ≠ b → ∀ y ∈ names, PySem.W.kitOne K (.ref (He.ga K y)) (.ref (He.ga K x)) = some (y == x)
theorem clsB_ok {K : PySem.W.Frag} {b : Str} {names : List Str} (h : clsB K b names = true) : ClsF K b names := by
  unfold clsB at h
  obtain ⟨h1, h⟩ := He.ba h
  obtain ⟨h2, h⟩ := He.ba h
  have each := List.all_eq_true.mp h
  refine ⟨xcB_ok h1, of_decide_eq_true h2, fun x hx => ?_, fun x hx => ?_, fun x hx => ?_, fun x hx => ?_, fun x hx => ?_, fun x hx hne y hy => ?_⟩
  all_goals
    obtain ⟨e1, z⟩ := He.ba (each x hx)
    obtain ⟨e2, z⟩ := He.ba z
    obtain ⟨e3, z⟩ := He.ba z
    obtain ⟨e4, z⟩ := He.ba z
    obtain ⟨e5, z⟩ := He.ba z
  · exact supB_ok e1
  · exact xcB_ok e2
  · exact of_decide_eq_true e3
  · exact of_decide_eq_true e4
  · exact of_decide_eq_true e5
  · rw [Bool.or_eq_true] at z
    rcases z with z | z
    · exact absurd (eq_of_beq z) hne
    · exact of_decide_eq_true (List.all_eq_true.mp z y hy)
theorem nodup_inj {α : Type} : ∀ {l : List α} {i j : Nat}, l.Nodup → (hi : i < l.length) → (hj : j < l.length) → l[i] = l[j] → i = j
  | [], i, j, _, hi, _, _ => absurd hi (Nat.not_lt_zero _)
  | a :: l, 0, 0, _, _, _, _ => rfl
  | a :: l, 0, j + 1, nd, hi, hj, e => by
    have e : a = l[j]'(Nat.lt_of_succ_lt_succ hj) := e
    exact absurd (by rw [e]; exact List.getElem_mem _) (List.nodup_cons.mp nd).1
  | a :: l, i + 1, 0, nd, hi, hj, e => by
    have e : l[i]'(Nat.lt_of_succ_lt_succ hi) = a := e
    exact absurd (by rw [← e]; exact List.getElem_mem _) (List.nodup_cons.mp nd).1
  | a :: l, i + 1, j + 1, nd, hi, hj, e => by
    rw [nodup_inj (List.nodup_cons.mp nd).2 (Nat.lt_of_succ_lt_succ hi) (Nat.lt_of_succ_lt_succ hj) e]
section
variable {W : Wd} {b : Str} {names : List Str}
theorem ClsF.xcA (F : ClsF W.K b names) (hW : W.ca = caOf W.K b names) (k : Nat) : XC W.K (W.ca k) := by
  rw [hW]
  unfold caOf
  cases q : names[k]? with
  | none => exact F.xb
  | some x => exact F.xc x (List.mem_of_getElem? q)
theorem ClsF.exmA (F : ClsF W.K b names) (hW : W.ca = caOf W.K b names) (h0 : names[0]? = some b) (k : Nat) (hk : k < names.length) : PySem.W.exmOne W.K (.ref (W.ca k)) (.ref (W.ca 0)) = some true := by
  rw [hW]
  unfold caOf
  rw [h0, List.getElem?_eq_getElem hk]
  exact F.exm _ (List.getElem_mem hk)
theorem ClsF.isk (F : ClsF W.K b names) (hW : W.ca = caOf W.K b names) (nd : names.Nodup) (k : Nat) (hk : k < names.length) (hb : names[k] ≠ b) : IsK W (.ref (W.ca k)) (.ref (W.ca k)) ansO (subX names.length k) where
  cls := .own _
  ty := fun T r e => by
    unfold ansO at e
    split at e
    · rename_i eT
      cases e
      rw [eT, hW]
      unfold caOf
      rw [List.getElem?_eq_getElem hk]
      exact F.non _ (List.getElem_mem hk)
    · cases e
  ex := fun j r e => by
    unfold subX at e
    split at e
    · rename_i hj
      cases e
      refine ⟨?_, F.xcA hW j⟩
      rw [hW]
      unfold caOf
      rw [List.getElem?_eq_getElem hk, List.getElem?_eq_getElem hj]
      show PySem.W.kitOne W.K (.ref (He.ga W.K names[j])) (.ref (He.ga W.K names[k])) = _
      rw [F.kit _ (List.getElem_mem hk) hb _ (List.getElem_mem hj)]
      congr 1
      by_cases ejk : j = k
      · subst ejk
        simp
      · have ne : names[j] ≠ names[k] := fun z => ejk (nodup_inj nd hj hk z)
        rw [beq_false_of_ne ne, beq_false_of_ne ejk]
    · cases e
/-- the base's __init__ -/
def iniB (K : PySem.W.Frag) (b file : Str) : Bool := decide (PySem.W.nsIn K cStatics "thirdparty.any" = some none) && ((PySem.W.clsIn K (He.ga K b)).isSome && (match K.lookup (iniAt K b) with
  | some ⟨_, _, .func fd, _⟩ => PySem.W.codeIn K fd.code fd.qualname && ((match fd.code with
      | .ref c => (match K.lookup c with
        | some ⟨_, _, .fields vs, _⟩ => (match (vs[2]? : Option Value) with
          | some (.str f _) => file == f
          | _ => false)
        | _ => false)
      | _ => false) && ((match fd.closure with
        | [(_, c)] => (match K.lookup c with
          | some ⟨_, _, .cell (some (.ref D)), _⟩ => D == He.ga K b
          | _ => false)
        | _ => false) && decide (fd.defaults = .none)))
  | _ => false))
theorem init_of {P : Program} {w : World} {mg : Str → Option Value} {base : Heap} {params : Arguments} {scope : Scope} {qual : Str} {p0 p1 p2 p3 p4 p5 p6 p7 p8 p9 : Pos} {ar : Arg}
    (io : iniObs b W.K = some (("__init__" : Str), qual, params, FuncBody.stmts (iniBody p0 p1 p2 p3 p4 p5 p6 p7 p8 p9), scope, mainGlobals, (["__class__"] : List Str), builtinsNs)) (ib : iniB W.K b P.main.file = true) (S : IniS scope) (hp : (params.posonlyargs ++ params.args).head? = some ar) (har : ar.arg = "self")
    (hline : (p2.endLine == p4.line) = true) (hsuper : mg "super" = none) (htop : (P.main.scope.names.lookup ("super" : Str)).isSome = false)
    (hbind : ∀ (kV doc pm : Value) (an : Option Addr) (cdv ct : Value) (cc : Addr) (u v : Value), bindArgs (PySem.W.ksFn "__init__" qual params (iniBody p0 p1 p2 p3 p4 p5 p6 p7 p8 p9) scope .none kV doc pm an cdv ct cc) ⟨[u, v], []⟩ = pure [(("self" : Str), u), (("value" : Str), v)]) :
    ∃ fd, FnOk P w W.K mg base CX0 1 (iniAt W.K b) fd ["self", "value"] (spI W.K (He.ga W.K b)) ∧ Binds W.K fd ["self", "value"] [] := by
  unfold iniB at ib
  obtain ⟨i1, ib⟩ := He.ba ib
  obtain ⟨i2, ib⟩ := He.ba ib
  unfold iniObs at io
  split at ib
  · rename_i oc od fd osl lk
    rw [lk] at io
    dsimp only at io
    obtain ⟨j1, ib⟩ := He.ba ib
    obtain ⟨j2, ib⟩ := He.ba ib
    obtain ⟨j3, j4⟩ := He.ba ib
    split at j2
    · rename_i c hcode
      split at j2
      · rename_i ccl cdd vs ccs lc
        split at j2
        · rename_i f tf hvs
          split at j3
          · rename_i y cc hclo
            split at j3
            · rename_i cl cld D csl lcell
              have eD := eq_of_beq j3
              subst eD
              obtain ⟨n1, n2, n3, n4, n5, n6, n7, n8, n9, n10, n11, n12, n13, n14, n15⟩ := fd
              simp only [Option.some.injEq, Prod.mk.injEq] at io
              obtain ⟨q1, q2, q3, q4, q5, q6, q7, q8⟩ := io
              dsimp only at hcode hclo j4 j1
              have j5 : n8 = Value.none := of_decide_eq_true j4
              subst q1 q2 q3 q4 q5 q6 q8 hcode hclo j5
              have ey : y = "__class__" := by simpa using q7
              subst ey
              obtain ⟨cdD, hcd⟩ := Option.isSome_iff_exists.mp i2
              exact ⟨_, init_fn (k := 0) lk j1 S hp har hline lc hvs j2 lcell hcd hsuper htop (of_decide_eq_true i1), Binds.all fun us hl => match us, hl with | [u, v], _ => hbind _ _ _ _ _ _ _ u v⟩
            · cases j3
          · cases j3
        · cases j2
      · cases j2
    · cases j2
  · cases ib
theorem raiC_of {P : Program} {w : World} {mg : Str → Option Value} {base : Heap} (F : ClsF W.K b names) (hW : W.ca = caOf W.K b names) {k : Nat} {x : Str} (hx : names[k]? = some x) (hm : mg x = some (.ref (He.ga W.K x))) (hi : ∃ fd, FnOk P w W.K mg base CX0 1 (iniAt W.K b) fd ["self", "value"] (spI W.K (He.ga W.K b)) ∧ Binds W.K fd ["self", "value"] []) :
    RaiC W P w mg base x k := by
  obtain ⟨fd, f1, f2⟩ := hi
  have e : W.ca k = He.ga W.K x := by
    rw [hW]
    unfold caOf
    rw [hx]
    rfl
  have hmem := List.mem_of_getElem? hx
  exact ⟨_, _, fd, by rw [e]; exact F.sup x hmem, by rw [e]; exact F.ini x hmem, F.ty, f1, f2, by rw [e]; exact hm⟩
end
end Z
set_option Elab.async false
set_option linter.all false
set_option autoImplicit false
set_option maxRecDepth 100000
set_option maxHeartbeats 4000000
namespace Z
open PySem PySem.Spec PyProof.Rows L2
def top (i : Nat) : Stmt := PySem.Challenge.pw_noghostleft_k86_what_inks_and_wishes_ref.main.body.getD i (.Pass ⟨0, 0, 0, 0⟩)

def lamIn : Stmt → LamD
  | .Assign _ (.List (.Tuple (.Lambda params body scope _ :: _) _ _ :: _) _) _ => ⟨("_law_right" ++ ".<locals>." : Str) ++ "<lambda>", params, body, scope⟩
  | .Expr (.Call _ (.Tuple (.Lambda params body scope _ :: _) _ _ :: _) _ _) _ => ⟨("_law_right" ++ ".<locals>." : Str) ++ "<lambda>", params, body, scope⟩
  | _ => ⟨"", ⟨[], [], none, [], [], none, []⟩, .Constant .none 0 ⟨0, 0, 0, 0⟩, ⟨.function, [], false, false, []⟩⟩
def lamAt (k : Nat) : LamD := lamIn ((defBody (top 70)).getD (10 + k) (.Pass ⟨0, 0, 0, 0⟩))
structure Am (W : Wd) (P : Program) (w : World) (mg : Str → Option Value) (base : Heap) : Prop where
  fr : ∀ x ∈ bNs, mg x = none
  fn_is_integer : ∃ f fd, FunD W.K "is_integer" "is_integer" (defArgs (top 9)) (defBody (top 9)) (defScope (top 9)) [] [] f fd ∧ mg "is_integer" = some (.ref f)
  fn_is_between : ∃ f fd, FunD W.K "is_between" "is_between" (defArgs (top 10)) (defBody (top 10)) (defScope (top 10)) [] [] f fd ∧ mg "is_between" = some (.ref f)
  fn_are_between : ∃ f fd, FunD W.K "are_between" "are_between" (defArgs (top 11)) (defBody (top 11)) (defScope (top 11)) [] [] f fd ∧ mg "are_between" = some (.ref f)
  fn_is_ascending : ∃ f fd, FunD W.K "is_ascending" "is_ascending" (defArgs (top 12)) (defBody (top 12)) (defScope (top 12)) [] [] f fd ∧ mg "is_ascending" = some (.ref f)
  fn_is_ink : ∃ f fd, FunD W.K "is_ink" "is_ink" (defArgs (top 17)) (defBody (top 17)) (defScope (top 17)) [] [] f fd ∧ mg "is_ink" = some (.ref f)
  fn_check_ink : ∃ f fd, FunD W.K "check_ink" "check_ink" (defArgs (top 18)) (defBody (top 18)) (defScope (top 18)) [] [] f fd ∧ mg "check_ink" = some (.ref f)
  fn_check_state : ∃ f fd, FunD W.K "check_state" "check_state" (defArgs (top 19)) (defBody (top 19)) (defScope (top 19)) [] [] f fd ∧ mg "check_state" = some (.ref f)
  fn_is_lot_of : ∃ f fd, FunD W.K "is_lot_of" "is_lot_of" (defArgs (top 20)) (defBody (top 20)) (defScope (top 20)) [] [] f fd ∧ mg "is_lot_of" = some (.ref f)
  fn_check_lot : ∃ f fd, FunD W.K "check_lot" "check_lot" (defArgs (top 21)) (defBody (top 21)) (defScope (top 21)) [] [] f fd ∧ mg "check_lot" = some (.ref f)
  fn_check_grey : ∃ f fd, FunD W.K "check_grey" "check_grey" (defArgs (top 22)) (defBody (top 22)) (defScope (top 22)) [] [] f fd ∧ mg "check_grey" = some (.ref f)
  fn_greys_by : ∃ f fd, FunD W.K "greys_by" "greys_by" (defArgs (top 23)) (defBody (top 23)) (defScope (top 23)) [] [] f fd ∧ mg "greys_by" = some (.ref f)
  fn_greys_of : ∃ f fd, FunD W.K "greys_of" "greys_of" (defArgs (top 24)) (defBody (top 24)) (defScope (top 24)) [] [] f fd ∧ mg "greys_of" = some (.ref f)
  fn_states_by : ∃ f fd, FunD W.K "states_by" "states_by" (defArgs (top 25)) (defBody (top 25)) (defScope (top 25)) [] [] f fd ∧ mg "states_by" = some (.ref f)
  fn_all_of : ∃ f fd, FunD W.K "all_of" "all_of" (defArgs (top 26)) (defBody (top 26)) (defScope (top 26)) [] [] f fd ∧ mg "all_of" = some (.ref f)
  fn_does_show : ∃ f fd, FunD W.K "does_show" "does_show" (defArgs (top 27)) (defBody (top 27)) (defScope (top 27)) [] [] f fd ∧ mg "does_show" = some (.ref f)
  fn_is_wave : ∃ f fd, FunD W.K "is_wave" "is_wave" (defArgs (top 34)) (defBody (top 34)) (defScope (top 34)) [] [] f fd ∧ mg "is_wave" = some (.ref f)
  fn_check_wave : ∃ f fd, FunD W.K "check_wave" "check_wave" (defArgs (top 35)) (defBody (top 35)) (defScope (top 35)) [] [] f fd ∧ mg "check_wave" = some (.ref f)
  fn_row_of : ∃ f fd, FunD W.K "row_of" "row_of" (defArgs (top 36)) (defBody (top 36)) (defScope (top 36)) [] [] f fd ∧ mg "row_of" = some (.ref f)
  fn_state_by : ∃ f fd, FunD W.K "state_by" "state_by" (defArgs (top 37)) (defBody (top 37)) (defScope (top 37)) [] [] f fd ∧ mg "state_by" = some (.ref f)
  fn_lot_by : ∃ f fd, FunD W.K "lot_by" "lot_by" (defArgs (top 38)) (defBody (top 38)) (defScope (top 38)) [] [] f fd ∧ mg "lot_by" = some (.ref f)
  fn_nexts_of : ∃ f fd, FunD W.K "nexts_of" "nexts_of" (defArgs (top 39)) (defBody (top 39)) (defScope (top 39)) [] [] f fd ∧ mg "nexts_of" = some (.ref f)
  fn_state_behind : ∃ f fd, FunD W.K "state_behind" "state_behind" (defArgs (top 40)) (defBody (top 40)) (defScope (top 40)) [] [] f fd ∧ mg "state_behind" = some (.ref f)
  fn_lot_behind : ∃ f fd, FunD W.K "lot_behind" "lot_behind" (defArgs (top 41)) (defBody (top 41)) (defScope (top 41)) [] [] f fd ∧ mg "lot_behind" = some (.ref f)
  fn_shown_by : ∃ f fd, FunD W.K "shown_by" "shown_by" (defArgs (top 42)) (defBody (top 42)) (defScope (top 42)) [] [] f fd ∧ mg "shown_by" = some (.ref f)
  fn_rests_of : ∃ f fd, FunD W.K "rests_of" "rests_of" (defArgs (top 43)) (defBody (top 43)) (defScope (top 43)) [] [] f fd ∧ mg "rests_of" = some (.ref f)
  fn_settles : ∃ f fd, FunD W.K "settles" "settles" (defArgs (top 44)) (defBody (top 44)) (defScope (top 44)) [] [] f fd ∧ mg "settles" = some (.ref f)
  fn_is_closed : ∃ f fd, FunD W.K "is_closed" "is_closed" (defArgs (top 49)) (defBody (top 49)) (defScope (top 49)) [] [] f fd ∧ mg "is_closed" = some (.ref f)
  fn_is_book : ∃ f fd, FunD W.K "is_book" "is_book" (defArgs (top 50)) (defBody (top 50)) (defScope (top 50)) [] [] f fd ∧ mg "is_book" = some (.ref f)
  fn_check_wish : ∃ f fd, FunD W.K "check_wish" "check_wish" (defArgs (top 51)) (defBody (top 51)) (defScope (top 51)) [] [] f fd ∧ mg "check_wish" = some (.ref f)
  fn_ways_of : ∃ f fd, FunD W.K "ways_of" "ways_of" (defArgs (top 52)) (defBody (top 52)) (defScope (top 52)) [] [] f fd ∧ mg "ways_of" = some (.ref f)
  fn_lots_from : ∃ f fd, FunD W.K "lots_from" "lots_from" (defArgs (top 53)) (defBody (top 53)) (defScope (top 53)) [] [] f fd ∧ mg "lots_from" = some (.ref f)
  fn_best_of : ∃ f fd, FunD W.K "best_of" "best_of" (defArgs (top 54)) (defBody (top 54)) (defScope (top 54)) [] [] f fd ∧ mg "best_of" = some (.ref f)
  fn_wish_told : ∃ f fd, FunD W.K "wish_told" "wish_told" (defArgs (top 55)) (defBody (top 55)) (defScope (top 55)) [] [] f fd ∧ mg "wish_told" = some (.ref f)
  fn_does_bar : ∃ f fd, FunD W.K "does_bar" "does_bar" (defArgs (top 56)) (defBody (top 56)) (defScope (top 56)) [] [] f fd ∧ mg "does_bar" = some (.ref f)
  fn_shows_wish : ∃ f fd, FunD W.K "shows_wish" "shows_wish" (defArgs (top 57)) (defBody (top 57)) (defScope (top 57)) [] [] f fd ∧ mg "shows_wish" = some (.ref f)
  fn_shortest_wish : ∃ f fd, FunD W.K "shortest_wish" "shortest_wish" (defArgs (top 58)) (defBody (top 58)) (defScope (top 58)) [] [] f fd ∧ mg "shortest_wish" = some (.ref f)
  fn_shows_shortest : ∃ f fd, FunD W.K "shows_shortest" "shows_shortest" (defArgs (top 59)) (defBody (top 59)) (defScope (top 59)) [] [] f fd ∧ mg "shows_shortest" = some (.ref f)
  fn_wish_count : ∃ f fd, FunD W.K "wish_count" "wish_count" (defArgs (top 60)) (defBody (top 60)) (defScope (top 60)) [] [] f fd ∧ mg "wish_count" = some (.ref f)
  fn_wishes : ∃ f fd, FunD W.K "wishes" "wishes" (defArgs (top 61)) (defBody (top 61)) (defScope (top 61)) [] [] f fd ∧ mg "wishes" = some (.ref f)
  fn_is_steady : ∃ f fd, FunD W.K "is_steady" "is_steady" (defArgs (top 62)) (defBody (top 62)) (defScope (top 62)) [] [] f fd ∧ mg "is_steady" = some (.ref f)
  fn__law_pot : ∃ f fd, FunD W.K "_law_pot" "_law_pot" (defArgs (top 64)) (defBody (top 64)) (defScope (top 64)) [] [] f fd ∧ mg "_law_pot" = some (.ref f)
  fn__law_take : ∃ f fd, FunD W.K "_law_take" "_law_take" (defArgs (top 65)) (defBody (top 65)) (defScope (top 65)) [] [] f fd ∧ mg "_law_take" = some (.ref f)
  fn__law_of : ∃ f fd, FunD W.K "_law_of" "_law_of" (defArgs (top 66)) (defBody (top 66)) (defScope (top 66)) [] [] f fd ∧ mg "_law_of" = some (.ref f)
  fn__law_cells : ∃ f fd, FunD W.K "_law_cells" "_law_cells" (defArgs (top 67)) (defBody (top 67)) (defScope (top 67)) [] [] f fd ∧ mg "_law_cells" = some (.ref f)
  fn__law_caught : ∃ f fd, FunD W.K "_law_caught" "_law_caught" (defArgs (top 68)) (defBody (top 68)) (defScope (top 68)) [] [] f fd ∧ mg "_law_caught" = some (.ref f)
  fn__law_is_raised : ∃ f fd, FunD W.K "_law_is_raised" "_law_is_raised" (defArgs (top 69)) (defBody (top 69)) (defScope (top 69)) [] [] f fd ∧ mg "_law_is_raised" = some (.ref f)
  fn__law_right : ∃ f fd, FunD W.K "_law_right" "_law_right" (defArgs (top 70)) (defBody (top 70)) (defScope (top 70)) [] [] f fd ∧ mg "_law_right" = some (.ref f)
  fn_law : ∃ f fd, FunD W.K "law" "law" (defArgs (top 71)) (defBody (top 71)) (defScope (top 71)) [] [] f fd ∧ mg "law" = some (.ref f)
  c_MOST_STATES : GlC W mg "MOST_STATES" (.int 10)
  c_MOST_GREY : GlC W mg "MOST_GREY" (.int 7)
  c_FOUR : GlC W mg "FOUR" (.int 4)
  c_DARK : GlC W mg "DARK" (.str "d")
  c_LIGHT : GlC W mg "LIGHT" (.str "l")
  c_REST : GlC W mg "REST" (.str "r")
  c_PULSES : GlC W mg "PULSES" (.ktp [(.str "d"), (.str "l"), (.str "r")])
  c_MOST_PULSES : GlC W mg "MOST_PULSES" (.int 5000)
  c_WAVE : GlC W mg "WAVE" (.str "wave")
  c_BARRED : GlC W mg "BARRED" (.str "barred")
  c_MOST_NUMBER : GlC W mg "MOST_NUMBER" (.int 30)
  x_InkError : RaiC W P w mg base "InkError" 0
  x_BadGrey : RaiC W P w mg base "BadGrey" 1
  x_BadInk : RaiC W P w mg base "BadInk" 2
  x_BadLot : RaiC W P w mg base "BadLot" 3
  x_BadNumber : RaiC W P w mg base "BadNumber" 4
  x_BadState : RaiC W P w mg base "BadState" 5
  x_BadWave : RaiC W P w mg base "BadWave" 6
  m_InkError : mg "InkError" = some (.ref (W.ca 0))
  m_BadGrey : mg "BadGrey" = some (.ref (W.ca 1))
  k_BadGrey : IsK W (.ref (W.ca 1)) (.ref (W.ca 1)) ansO (subX 7 1)
  m_BadInk : mg "BadInk" = some (.ref (W.ca 2))
  k_BadInk : IsK W (.ref (W.ca 2)) (.ref (W.ca 2)) ansO (subX 7 2)
  m_BadLot : mg "BadLot" = some (.ref (W.ca 3))
  k_BadLot : IsK W (.ref (W.ca 3)) (.ref (W.ca 3)) ansO (subX 7 3)
  m_BadNumber : mg "BadNumber" = some (.ref (W.ca 4))
  k_BadNumber : IsK W (.ref (W.ca 4)) (.ref (W.ca 4)) ansO (subX 7 4)
  m_BadState : mg "BadState" = some (.ref (W.ca 5))
  k_BadState : IsK W (.ref (W.ca 5)) (.ref (W.ca 5)) ansO (subX 7 5)
  m_BadWave : mg "BadWave" = some (.ref (W.ca 6))
  k_BadWave : IsK W (.ref (W.ca 6)) (.ref (W.ca 6)) ansO (subX 7 6)
  xc : ∀ k, XC W.K (W.ca k)
  exm : ∀ k, decide (k < 7) = true → PySem.W.exmOne W.K (.ref (W.ca k)) (.ref (W.ca 0)) = some true
  lam : ∀ k, W.lam k = lamAt k
variable {W : Wd} {P : Program} {w : World} {mg : Str → Option Value} {base : Heap}
def g_is_integer : En → Sto → RS := (gSeq (gRet (fAndV (fIsi (tyAns "int") (fun _ => none) (fVar 0)) (fNotV (fIsi (tyAns "bool") (fun _ => none) (fVar 0))))) gNil)
def F_is_integer : Fn := runF 1 g_is_integer
theorem sc_is_integer : FnScope ["value"] ["value"] (defScope (top 9)) := ⟨rfl, rfl, rfl, by decide +kernel, rfl, by decide +kernel, by decide +kernel⟩
theorem d_is_integer (A : Am W P w mg base) : Def W P w mg base 1 "is_integer" 1 F_is_integer := by
  obtain ⟨f, fd, F, hm⟩ := A.fn_is_integer
  refine w_def A.fr F sc_is_integer hm (F.bindsN fun _ _ _ _ _ _ us hl => match us, hl with | [_], _ => rfl) fun cd A1 outer s H E => ?_
  intro C
  exact (w_seq (w_ret (w_andV (w_isT "int" (w_var 0)) (w_and1 (w_notV (w_isT "bool" (w_var 0)))))) w_nilS)
def g_is_between : En → Sto → RS := (gSeq (gRet (fAndV (fCall F_is_integer (fArgs [(fVar 0)])) (fChain opLe opLe (fVar 1) (fVar 0) (fVar 2)))) gNil)
def F_is_between : Fn := runF 3 g_is_between
theorem sc_is_between : FnScope ["value", "low", "high"] ["value", "low", "high"] (defScope (top 10)) := ⟨rfl, rfl, rfl, by decide +kernel, rfl, by decide +kernel, by decide +kernel⟩
theorem d_is_between (A : Am W P w mg base) : Def W P w mg base 2 "is_between" 3 F_is_between := by
  obtain ⟨f, fd, F, hm⟩ := A.fn_is_between
  refine w_def A.fr F sc_is_between hm (F.bindsN fun _ _ _ _ _ _ us hl => match us, hl with | [_, _, _], _ => rfl) fun cd A1 outer s H E => ?_
  intro C
  exact (w_seq (w_ret (w_andV (w_call (d_is_integer A) (by decide) (w_cons (w_var 0) w_nil)) (w_and1 (w_chain (w_var 1) (w_var 0) (w_var 2))))) w_nilS)
def g_are_between : En → Sto → RS := (gSeq (gRet (fAndV (fIsi (tyAns "tuple") (fun _ => none) (fVar 0)) (fOpA (opAll fun bs => bs.all id) (fArgs [(fComp [3] (fIter (fVar 0)) (.nm 3) fYes (fCall F_is_between (fArgs [(fVar 3), (fVar 1), (fVar 2)])) 200)])))) gNil)
def F_are_between : Fn := runF 4 g_are_between
theorem sc_are_between : FnScope ["value", "low", "high", "one"] ["value", "low", "high"] (defScope (top 11)) := ⟨rfl, rfl, rfl, by decide +kernel, rfl, by decide +kernel, by decide +kernel⟩
theorem d_are_between (A : Am W P w mg base) : Def W P w mg base 3 "are_between" 3 F_are_between := by
  obtain ⟨f, fd, F, hm⟩ := A.fn_are_between
  refine w_def A.fr F sc_are_between hm (F.bindsN fun _ _ _ _ _ _ us hl => match us, hl with | [_, _, _], _ => rfl) fun cd A1 outer s H E => ?_
  intro C
  exact (w_seq (w_ret (w_andV (w_isT "tuple" (w_var 0)) (w_and1 (w_blt (w_cons (w_comp [("one", 3)] 200 (w_iter (w_var 0)) (fun _ _ _ _ _ => (w_nm 3)) (fun _ _ _ _ _ => w_yes) (fun _ _ _ _ _ => (w_call (d_is_between A) (by decide) (w_cons (w_var 3) (w_cons (w_var 1) (w_cons (w_var 2) w_nil)))))) w_nil))))) w_nilS)
def g_is_ascending : En → Sto → RS := (gSeq (gRet (fOpA (opAll fun bs => bs.all id) (fArgs [(fComp [1, 2] (fZip (fVar 0) (fSl (fVar 0) (fPart (fCst (.int 1))) fNoP)) (.tp [(.nm 1), (.nm 2)]) fYes (fBin opLt (fVar 1) (fVar 2)) 200)]))) gNil)
def F_is_ascending : Fn := runF 3 g_is_ascending
theorem sc_is_ascending : FnScope ["items", "one", "other"] ["items"] (defScope (top 12)) := ⟨rfl, rfl, rfl, by decide +kernel, rfl, by decide +kernel, by decide +kernel⟩
theorem d_is_ascending (A : Am W P w mg base) : Def W P w mg base 1 "is_ascending" 1 F_is_ascending := by
  obtain ⟨f, fd, F, hm⟩ := A.fn_is_ascending
  refine w_def A.fr F sc_is_ascending hm (F.bindsN fun _ _ _ _ _ _ us hl => match us, hl with | [_], _ => rfl) fun cd A1 outer s H E => ?_
  intro C
  exact (w_seq (w_ret (w_blt (w_cons (w_comp [("one", 1), ("other", 2)] 200 (w_zip (w_var 0) (w_sl (w_var 0) (w_part w_int) w_noP)) (fun _ _ _ _ _ => (w_tgtup (w_tgcons (w_nm 1) (w_tgcons (w_nm 2) w_tgnil)))) (fun _ _ _ _ _ => w_yes) (fun _ _ _ _ _ => (w_cmp (w_var 1) (w_var 2)))) w_nil))) w_nilS)
def g_is_ink : En → Sto → RS := (gSeq (gIte (fOrT (fNotT (fTru (fIsi (tyAns "tuple") (fun _ => none) (fVar 0)))) (fOrT (fBl (fBin opNe (fOpA opLen (fArgs [(fVar 0)])) (fCst (.int 4)))) (fNotT (fTru (fCall F_are_between (fArgs [(fBin opIx (fVar 0) (fCst (.int 0))), (fCst (.int 0)), (fCst (.int 7))])))))) (gSeq (gRet (fCst (.bl false))) gNil) gNil) (gSeq (gSet 1 (fOpA opLen (fArgs [(fBin opIx (fVar 0) (fCst (.int 0)))]))) (gSeq (gIte (fNotT (fBl (fChain opLe opLe (fCst (.int 1)) (fVar 1) (fCst (.int 10))))) (gSeq (gRet (fCst (.bl false))) gNil) gNil) (gSeq (gRet (fOpA (opAll fun bs => bs.all id) (fArgs [(fComp [2] (fIter (fSl (fVar 0) (fPart (fCst (.int 1))) fNoP)) (.nm 2) fYes (fAndV (fCall F_are_between (fArgs [(fVar 2), (fCst (.int 0)), (fBin opSub (fVar 1) (fCst (.int 1)))])) (fBin opEq (fOpA opLen (fArgs [(fVar 2)])) (fVar 1))) 200)]))) gNil))))
def F_is_ink : Fn := runF 3 g_is_ink
theorem sc_is_ink : FnScope ["value", "many", "row"] ["value"] (defScope (top 17)) := ⟨rfl, rfl, rfl, by decide +kernel, rfl, by decide +kernel, by decide +kernel⟩
theorem d_is_ink (A : Am W P w mg base) : Def W P w mg base 4 "is_ink" 1 F_is_ink := by
  obtain ⟨f, fd, F, hm⟩ := A.fn_is_ink
  refine w_def A.fr F sc_is_ink hm (F.bindsN fun _ _ _ _ _ _ us hl => match us, hl with | [_], _ => rfl) fun cd A1 outer s H E => ?_
  intro C
  exact (w_seq (w_ite ((w_wor (w_tnot (w_test (w_isT "tuple" (w_var 0)))) (w_wor (w_tcmp (w_blt (w_cons (w_var 0) w_nil)) (w_gl A.c_FOUR)) (w_wor1 (w_tnot (w_test (w_call (d_are_between A) (by decide) (w_cons (w_ix (w_var 0) w_int) (w_cons w_int (w_cons (w_gl A.c_MOST_GREY) w_nil)))))))))).pt (w_seq (w_ret w_bl) w_nilS) w_nilS) (w_seq (w_set 1 (w_blt (w_cons (w_ix (w_var 0) w_int) w_nil))) (w_seq (w_ite (w_tnot (w_tchain w_int (w_var 1) (w_gl A.c_MOST_STATES))) (w_seq (w_ret w_bl) w_nilS) w_nilS) (w_seq (w_ret (w_blt (w_cons (w_comp [("row", 2)] 200 (w_iter (w_sl (w_var 0) (w_part w_int) w_noP)) (fun _ _ _ _ _ => (w_nm 2)) (fun _ _ _ _ _ => w_yes) (fun _ _ _ _ _ => (w_andV (w_call (d_are_between A) (by decide) (w_cons (w_var 2) (w_cons w_int (w_cons (w_sub (w_var 1) w_int) w_nil)))) (w_and1 (w_cmp (w_blt (w_cons (w_var 2) w_nil)) (w_var 1)))))) w_nil))) w_nilS))))
def g_check_ink : En → Sto → RS := (gSeq (gIte (fNotT (fTru (fCall F_is_ink (fArgs [(fVar 0)])))) (gSeq (gRaise 2 (fVar 0)) gNil) gNil) gNil)
def F_check_ink : Fn := runF 1 g_check_ink
theorem sc_check_ink : FnScope ["value"] ["value"] (defScope (top 18)) := ⟨rfl, rfl, rfl, by decide +kernel, rfl, by decide +kernel, by decide +kernel⟩
theorem d_check_ink (A : Am W P w mg base) : Def W P w mg base 5 "check_ink" 1 F_check_ink := by
  obtain ⟨f, fd, F, hm⟩ := A.fn_check_ink
  refine w_def A.fr F sc_check_ink hm (F.bindsN fun _ _ _ _ _ _ us hl => match us, hl with | [_], _ => rfl) fun cd A1 outer s H E => ?_
  intro C
  exact (w_seq (w_ite (w_tnot (w_test (w_call (d_is_ink A) (by decide) (w_cons (w_var 0) w_nil)))) (w_seq (w_raise 2 A.x_BadInk (w_var 0)) w_nilS) w_nilS) w_nilS)
def g_check_state : En → Sto → RS := (gSeq (gEx (fCall F_check_ink (fArgs [(fVar 0)]))) (gSeq (gIte (fNotT (fTru (fCall F_is_between (fArgs [(fVar 1), (fCst (.int 0)), (fBin opSub (fOpA opLen (fArgs [(fBin opIx (fVar 0) (fCst (.int 0)))])) (fCst (.int 1)))])))) (gSeq (gRaise 5 (fVar 1)) gNil) gNil) gNil))
def F_check_state : Fn := runF 2 g_check_state
theorem sc_check_state : FnScope ["ink", "state"] ["ink", "state"] (defScope (top 19)) := ⟨rfl, rfl, rfl, by decide +kernel, rfl, by decide +kernel, by decide +kernel⟩
theorem d_check_state (A : Am W P w mg base) : Def W P w mg base 6 "check_state" 2 F_check_state := by
  obtain ⟨f, fd, F, hm⟩ := A.fn_check_state
  refine w_def A.fr F sc_check_state hm (F.bindsN fun _ _ _ _ _ _ us hl => match us, hl with | [_, _], _ => rfl) fun cd A1 outer s H E => ?_
  intro C
  exact (w_seq (w_ex (w_call (d_check_ink A) (by decide) (w_cons (w_var 0) w_nil))) (w_seq (w_ite (w_tnot (w_test (w_call (d_is_between A) (by decide) (w_cons (w_var 1) (w_cons w_int (w_cons (w_sub (w_blt (w_cons (w_ix (w_var 0) w_int) w_nil)) w_int) w_nil)))))) (w_seq (w_raise 5 A.x_BadState (w_var 1)) w_nilS) w_nilS) w_nilS))
def g_is_lot_of : En → Sto → RS := (gSeq (gRet (fAndV (fCall F_are_between (fArgs [(fVar 1), (fCst (.int 0)), (fBin opSub (fOpA opLen (fArgs [(fBin opIx (fVar 0) (fCst (.int 0)))])) (fCst (.int 1)))])) (fAndV (fBin opNe (fVar 1) (fOpA opTup (fArgs []))) (fCall F_is_ascending (fArgs [(fVar 1)]))))) gNil)
def F_is_lot_of : Fn := runF 2 g_is_lot_of
theorem sc_is_lot_of : FnScope ["ink", "value"] ["ink", "value"] (defScope (top 20)) := ⟨rfl, rfl, rfl, by decide +kernel, rfl, by decide +kernel, by decide +kernel⟩
theorem d_is_lot_of (A : Am W P w mg base) : Def W P w mg base 4 "is_lot_of" 2 F_is_lot_of := by
  obtain ⟨f, fd, F, hm⟩ := A.fn_is_lot_of
  refine w_def A.fr F sc_is_lot_of hm (F.bindsN fun _ _ _ _ _ _ us hl => match us, hl with | [_, _], _ => rfl) fun cd A1 outer s H E => ?_
  intro C
  exact (w_seq (w_ret (w_andV (w_call (d_are_between A) (by decide) (w_cons (w_var 1) (w_cons w_int (w_cons (w_sub (w_blt (w_cons (w_ix (w_var 0) w_int) w_nil)) w_int) w_nil)))) (w_andV (w_cmp (w_var 1) (w_tup w_nil)) (w_and1 (w_call (d_is_ascending A) (by decide) (w_cons (w_var 1) w_nil)))))) w_nilS)
def g_check_lot : En → Sto → RS := (gSeq (gEx (fCall F_check_ink (fArgs [(fVar 0)]))) (gSeq (gIte (fNotT (fTru (fCall F_is_lot_of (fArgs [(fVar 0), (fVar 1)])))) (gSeq (gRaise 3 (fVar 1)) gNil) gNil) gNil))
def F_check_lot : Fn := runF 2 g_check_lot
theorem sc_check_lot : FnScope ["ink", "lot"] ["ink", "lot"] (defScope (top 21)) := ⟨rfl, rfl, rfl, by decide +kernel, rfl, by decide +kernel, by decide +kernel⟩
theorem d_check_lot (A : Am W P w mg base) : Def W P w mg base 6 "check_lot" 2 F_check_lot := by
  obtain ⟨f, fd, F, hm⟩ := A.fn_check_lot
  refine w_def A.fr F sc_check_lot hm (F.bindsN fun _ _ _ _ _ _ us hl => match us, hl with | [_, _], _ => rfl) fun cd A1 outer s H E => ?_
  intro C
  exact (w_seq (w_ex (w_call (d_check_ink A) (by decide) (w_cons (w_var 0) w_nil))) (w_seq (w_ite (w_tnot (w_test (w_call (d_is_lot_of A) (by decide) (w_cons (w_var 0) (w_cons (w_var 1) w_nil))))) (w_seq (w_raise 3 A.x_BadLot (w_var 1)) w_nilS) w_nilS) w_nilS))
def g_check_grey : En → Sto → RS := (gSeq (gIte (fNotT (fTru (fCall F_is_between (fArgs [(fVar 0), (fCst (.int 0)), (fCst (.int 7))])))) (gSeq (gRaise 1 (fVar 0)) gNil) gNil) gNil)
def F_check_grey : Fn := runF 1 g_check_grey
theorem sc_check_grey : FnScope ["grey"] ["grey"] (defScope (top 22)) := ⟨rfl, rfl, rfl, by decide +kernel, rfl, by decide +kernel, by decide +kernel⟩
theorem d_check_grey (A : Am W P w mg base) : Def W P w mg base 3 "check_grey" 1 F_check_grey := by
  obtain ⟨f, fd, F, hm⟩ := A.fn_check_grey
  refine w_def A.fr F sc_check_grey hm (F.bindsN fun _ _ _ _ _ _ us hl => match us, hl with | [_], _ => rfl) fun cd A1 outer s H E => ?_
  intro C
  exact (w_seq (w_ite (w_tnot (w_test (w_call (d_is_between A) (by decide) (w_cons (w_var 0) (w_cons w_int (w_cons (w_gl A.c_MOST_GREY) w_nil)))))) (w_seq (w_raise 1 A.x_BadGrey (w_var 0)) w_nilS) w_nilS) w_nilS)
def g_greys_by : En → Sto → RS := (gSeq (gRet (fOpA opSset (fArgs [(fComp [2] (fIter (fVar 1)) (.nm 2) fYes (fBin opIx (fBin opIx (fVar 0) (fCst (.int 0))) (fVar 2)) 200)]))) gNil)
def F_greys_by : Fn := runF 3 g_greys_by
theorem sc_greys_by : FnScope ["ink", "lot", "state"] ["ink", "lot"] (defScope (top 23)) := ⟨rfl, rfl, rfl, by decide +kernel, rfl, by decide +kernel, by decide +kernel⟩
theorem d_greys_by (A : Am W P w mg base) : Def W P w mg base 1 "greys_by" 2 F_greys_by := by
  obtain ⟨f, fd, F, hm⟩ := A.fn_greys_by
  refine w_def A.fr F sc_greys_by hm (F.bindsN fun _ _ _ _ _ _ us hl => match us, hl with | [_, _], _ => rfl) fun cd A1 outer s H E => ?_
  intro C
  exact (w_seq (w_ret (w_sset (w_comp [("state", 2)] 200 (w_iter (w_var 1)) (fun _ _ _ _ _ => (w_nm 2)) (fun _ _ _ _ _ => w_yes) (fun _ _ _ _ _ => (w_ix (w_ix (w_var 0) w_int) (w_var 2)))))) w_nilS)
def g_greys_of : En → Sto → RS := (gSeq (gEx (fCall F_check_lot (fArgs [(fVar 0), (fVar 1)]))) (gSeq (gRet (fOpA opTuple (fArgs [(fCall F_greys_by (fArgs [(fVar 0), (fVar 1)]))]))) gNil))
def F_greys_of : Fn := runF 2 g_greys_of
theorem sc_greys_of : FnScope ["ink", "lot"] ["ink", "lot"] (defScope (top 24)) := ⟨rfl, rfl, rfl, by decide +kernel, rfl, by decide +kernel, by decide +kernel⟩
theorem d_greys_of (A : Am W P w mg base) : Def W P w mg base 7 "greys_of" 2 F_greys_of := by
  obtain ⟨f, fd, F, hm⟩ := A.fn_greys_of
  refine w_def A.fr F sc_greys_of hm (F.bindsN fun _ _ _ _ _ _ us hl => match us, hl with | [_, _], _ => rfl) fun cd A1 outer s H E => ?_
  intro C
  exact (w_seq (w_ex (w_call (d_check_lot A) (by decide) (w_cons (w_var 0) (w_cons (w_var 1) w_nil)))) (w_seq (w_ret (w_bltT (w_cons (w_call (d_greys_by A) (by decide) (w_cons (w_var 0) (w_cons (w_var 1) w_nil))) w_nil))) w_nilS))
def g_states_by : En → Sto → RS := (gSeq (gRet (fComp [2, 3] (fEnum (fBin opIx (fVar 0) (fCst (.int 0)))) (.tp [(.nm 2), (.nm 3)]) (fBl (fBin opEq (fVar 3) (fVar 1))) (fVar 2) 200)) gNil)
def F_states_by : Fn := runF 4 g_states_by
theorem sc_states_by : FnScope ["ink", "grey", "state", "its"] ["ink", "grey"] (defScope (top 25)) := ⟨rfl, rfl, rfl, by decide +kernel, rfl, by decide +kernel, by decide +kernel⟩
theorem d_states_by (A : Am W P w mg base) : Def W P w mg base 1 "states_by" 2 F_states_by := by
  obtain ⟨f, fd, F, hm⟩ := A.fn_states_by
  refine w_def A.fr F sc_states_by hm (F.bindsN fun _ _ _ _ _ _ us hl => match us, hl with | [_, _], _ => rfl) fun cd A1 outer s H E => ?_
  intro C
  exact (w_seq (w_ret (w_comp [("state", 2), ("its", 3)] 200 (w_enum (w_ix (w_var 0) w_int)) (fun _ _ _ _ _ => (w_tgtup (w_tgcons (w_nm 2) (w_tgcons (w_nm 3) w_tgnil)))) (fun _ _ _ _ _ => (w_oneT (w_tcmp (w_var 3) (w_var 1)))) (fun _ _ _ _ _ => (w_var 2)))) w_nilS)
def g_all_of : En → Sto → RS := (gSeq (gEx (fCall F_check_ink (fArgs [(fVar 0)]))) (gSeq (gEx (fCall F_check_grey (fArgs [(fVar 1)]))) (gSeq (gRet (fOpA opTuple (fArgs [(fCall F_states_by (fArgs [(fVar 0), (fVar 1)]))]))) gNil)))
def F_all_of : Fn := runF 2 g_all_of
theorem sc_all_of : FnScope ["ink", "grey"] ["ink", "grey"] (defScope (top 26)) := ⟨rfl, rfl, rfl, by decide +kernel, rfl, by decide +kernel, by decide +kernel⟩
theorem d_all_of (A : Am W P w mg base) : Def W P w mg base 6 "all_of" 2 F_all_of := by
  obtain ⟨f, fd, F, hm⟩ := A.fn_all_of
  refine w_def A.fr F sc_all_of hm (F.bindsN fun _ _ _ _ _ _ us hl => match us, hl with | [_, _], _ => rfl) fun cd A1 outer s H E => ?_
  intro C
  exact (w_seq (w_ex (w_call (d_check_ink A) (by decide) (w_cons (w_var 0) w_nil))) (w_seq (w_ex (w_call (d_check_grey A) (by decide) (w_cons (w_var 1) w_nil))) (w_seq (w_ret (w_bltT (w_cons (w_call (d_states_by A) (by decide) (w_cons (w_var 0) (w_cons (w_var 1) w_nil))) w_nil))) w_nilS)))
def g_does_show : En → Sto → RS := (gSeq (gRet (fOpA (opAll fun bs => bs.all id) (fArgs [(fComp [3] (fIter (fVar 1)) (.nm 3) fYes (fBin opEq (fBin opIx (fBin opIx (fVar 0) (fCst (.int 0))) (fVar 3)) (fVar 2)) 200)]))) gNil)
def F_does_show : Fn := runF 4 g_does_show
theorem sc_does_show : FnScope ["ink", "lot", "grey", "state"] ["ink", "lot", "grey"] (defScope (top 27)) := ⟨rfl, rfl, rfl, by decide +kernel, rfl, by decide +kernel, by decide +kernel⟩
theorem d_does_show (A : Am W P w mg base) : Def W P w mg base 1 "does_show" 3 F_does_show := by
  obtain ⟨f, fd, F, hm⟩ := A.fn_does_show
  refine w_def A.fr F sc_does_show hm (F.bindsN fun _ _ _ _ _ _ us hl => match us, hl with | [_, _, _], _ => rfl) fun cd A1 outer s H E => ?_
  intro C
  exact (w_seq (w_ret (w_blt (w_cons (w_comp [("state", 3)] 200 (w_iter (w_var 1)) (fun _ _ _ _ _ => (w_nm 3)) (fun _ _ _ _ _ => w_yes) (fun _ _ _ _ _ => (w_cmp (w_ix (w_ix (w_var 0) w_int) (w_var 3)) (w_var 2)))) w_nil))) w_nilS)
def g_is_wave : En → Sto → RS := (gSeq (gRet (fAndV (fIsi (tyAns "str") (fun _ => none) (fVar 0)) (fAndV (fBin opLe (fOpA opLen (fArgs [(fVar 0)])) (fCst (.int 5000))) (fOpA (opAll fun bs => bs.all id) (fArgs [(fComp [1] (fIter (fVar 0)) (.nm 1) fYes (fBin opIn (fVar 1) (fCst (.ktp [(.str "d"), (.str "l"), (.str "r")]))) 200)]))))) gNil)
def F_is_wave : Fn := runF 2 g_is_wave
theorem sc_is_wave : FnScope ["value", "sign"] ["value"] (defScope (top 34)) := ⟨rfl, rfl, rfl, by decide +kernel, rfl, by decide +kernel, by decide +kernel⟩
theorem d_is_wave (A : Am W P w mg base) : Def W P w mg base 1 "is_wave" 1 F_is_wave := by
  obtain ⟨f, fd, F, hm⟩ := A.fn_is_wave
  refine w_def A.fr F sc_is_wave hm (F.bindsN fun _ _ _ _ _ _ us hl => match us, hl with | [_], _ => rfl) fun cd A1 outer s H E => ?_
  intro C
  exact (w_seq (w_ret (w_andV (w_isT "str" (w_var 0)) (w_andV (w_cmp (w_blt (w_cons (w_var 0) w_nil)) (w_gl A.c_MOST_PULSES)) (w_and1 (w_blt (w_cons (w_comp [("sign", 1)] 200 (w_iter (w_var 0)) (fun _ _ _ _ _ => (w_nm 1)) (fun _ _ _ _ _ => w_yes) (fun _ _ _ _ _ => (w_cmp (w_var 1) (w_gl A.c_PULSES)))) w_nil)))))) w_nilS)
def g_check_wave : En → Sto → RS := (gSeq (gIte (fNotT (fTru (fCall F_is_wave (fArgs [(fVar 0)])))) (gSeq (gRaise 6 (fVar 0)) gNil) gNil) gNil)
def F_check_wave : Fn := runF 1 g_check_wave
theorem sc_check_wave : FnScope ["wave"] ["wave"] (defScope (top 35)) := ⟨rfl, rfl, rfl, by decide +kernel, rfl, by decide +kernel, by decide +kernel⟩
theorem d_check_wave (A : Am W P w mg base) : Def W P w mg base 3 "check_wave" 1 F_check_wave := by
  obtain ⟨f, fd, F, hm⟩ := A.fn_check_wave
  refine w_def A.fr F sc_check_wave hm (F.bindsN fun _ _ _ _ _ _ us hl => match us, hl with | [_], _ => rfl) fun cd A1 outer s H E => ?_
  intro C
  exact (w_seq (w_ite (w_tnot (w_test (w_call (d_is_wave A) (by decide) (w_cons (w_var 0) w_nil)))) (w_seq (w_raise 6 A.x_BadWave (w_var 0)) w_nilS) w_nilS) w_nilS)
def g_row_of : En → Sto → RS := (gSeq (gRet (fBin opIx (fVar 0) (fBin opAdd (fCst (.int 1)) (fMeth "tuple" opIndexT (fCst (.ktp [(.str "d"), (.str "l"), (.str "r")])) (fArgs [(fVar 1)]))))) gNil)
def F_row_of : Fn := runF 2 g_row_of
theorem sc_row_of : FnScope ["ink", "pulse"] ["ink", "pulse"] (defScope (top 36)) := ⟨rfl, rfl, rfl, by decide +kernel, rfl, by decide +kernel, by decide +kernel⟩
theorem d_row_of (A : Am W P w mg base) : Def W P w mg base 1 "row_of" 2 F_row_of := by
  obtain ⟨f, fd, F, hm⟩ := A.fn_row_of
  refine w_def A.fr F sc_row_of hm (F.bindsN fun _ _ _ _ _ _ us hl => match us, hl with | [_, _], _ => rfl) fun cd A1 outer s H E => ?_
  intro C
  exact (w_seq (w_ret (w_ix (w_var 0) (w_add w_int (w_meth mt_indexTC (w_gl A.c_PULSES) (w_cons (w_var 1) w_nil))))) w_nilS)
def g_state_by : En → Sto → RS := (gSeq (gFor (fIter (fVar 2)) (.nm 3) (gSeq (gSet 1 (fBin opIx (fCall F_row_of (fArgs [(fVar 0), (fVar 3)])) (fVar 1))) gNil) 200) (gSeq (gRet (fVar 1)) gNil))
def F_state_by : Fn := runF 4 g_state_by
theorem sc_state_by : FnScope ["ink", "state", "wave", "pulse"] ["ink", "state", "wave"] (defScope (top 37)) := ⟨rfl, rfl, rfl, by decide +kernel, rfl, by decide +kernel, by decide +kernel⟩
theorem d_state_by (A : Am W P w mg base) : Def W P w mg base 2 "state_by" 3 F_state_by := by
  obtain ⟨f, fd, F, hm⟩ := A.fn_state_by
  refine w_def A.fr F sc_state_by hm (F.bindsN fun _ _ _ _ _ _ us hl => match us, hl with | [_, _, _], _ => rfl) fun cd A1 outer s H E => ?_
  intro C
  exact (w_seq (w_for 200 (w_iter (w_var 2)) (w_nm 3) (w_seq (w_set 1 (w_ix (w_call (d_row_of A) (by decide) (w_cons (w_var 0) (w_cons (w_var 3) w_nil))) (w_var 1))) w_nilS)) (w_seq (w_ret (w_var 1)) w_nilS))
def g_lot_by : En → Sto → RS := (gSeq (gRet (fOpA opTuple (fArgs [(fOpA opSset (fArgs [(fComp [3] (fIter (fVar 1)) (.nm 3) fYes (fCall F_state_by (fArgs [(fVar 0), (fVar 3), (fVar 2)])) 200)]))]))) gNil)
def F_lot_by : Fn := runF 4 g_lot_by
theorem sc_lot_by : FnScope ["ink", "lot", "wave", "state"] ["ink", "lot", "wave"] (defScope (top 38)) := ⟨rfl, rfl, rfl, by decide +kernel, rfl, by decide +kernel, by decide +kernel⟩
theorem d_lot_by (A : Am W P w mg base) : Def W P w mg base 3 "lot_by" 3 F_lot_by := by
  obtain ⟨f, fd, F, hm⟩ := A.fn_lot_by
  refine w_def A.fr F sc_lot_by hm (F.bindsN fun _ _ _ _ _ _ us hl => match us, hl with | [_, _, _], _ => rfl) fun cd A1 outer s H E => ?_
  intro C
  exact (w_seq (w_ret (w_bltT (w_cons (w_sset (w_comp [("state", 3)] 200 (w_iter (w_var 1)) (fun _ _ _ _ _ => (w_nm 3)) (fun _ _ _ _ _ => w_yes) (fun _ _ _ _ _ => (w_call (d_state_by A) (by decide) (w_cons (w_var 0) (w_cons (w_var 3) (w_cons (w_var 2) w_nil))))))) w_nil))) w_nilS)
def g_nexts_of : En → Sto → RS := (gSeq (gRet (fComp [2] (fIter (fCst (.ktp [(.str "d"), (.str "l"), (.str "r")]))) (.nm 2) fYes (fOpA opTup (fArgs [(fVar 2), (fCall F_lot_by (fArgs [(fVar 0), (fVar 1), (fVar 2)]))])) 200)) gNil)
def F_nexts_of : Fn := runF 3 g_nexts_of
theorem sc_nexts_of : FnScope ["ink", "lot", "pulse"] ["ink", "lot"] (defScope (top 39)) := ⟨rfl, rfl, rfl, by decide +kernel, rfl, by decide +kernel, by decide +kernel⟩
theorem d_nexts_of (A : Am W P w mg base) : Def W P w mg base 4 "nexts_of" 2 F_nexts_of := by
  obtain ⟨f, fd, F, hm⟩ := A.fn_nexts_of
  refine w_def A.fr F sc_nexts_of hm (F.bindsN fun _ _ _ _ _ _ us hl => match us, hl with | [_, _], _ => rfl) fun cd A1 outer s H E => ?_
  intro C
  exact (w_seq (w_ret (w_comp [("pulse", 2)] 200 (w_iter (w_gl A.c_PULSES)) (fun _ _ _ _ _ => (w_nm 2)) (fun _ _ _ _ _ => w_yes) (fun _ _ _ _ _ => (w_tup (w_cons (w_var 2) (w_cons (w_call (d_lot_by A) (by decide) (w_cons (w_var 0) (w_cons (w_var 1) (w_cons (w_var 2) w_nil)))) w_nil)))))) w_nilS)
def g_state_behind : En → Sto → RS := (gSeq (gEx (fCall F_check_state (fArgs [(fVar 0), (fVar 1)]))) (gSeq (gEx (fCall F_check_wave (fArgs [(fVar 2)]))) (gSeq (gRet (fCall F_state_by (fArgs [(fVar 0), (fVar 1), (fVar 2)]))) gNil)))
def F_state_behind : Fn := runF 3 g_state_behind
theorem sc_state_behind : FnScope ["ink", "state", "wave"] ["ink", "state", "wave"] (defScope (top 40)) := ⟨rfl, rfl, rfl, by decide +kernel, rfl, by decide +kernel, by decide +kernel⟩
theorem d_state_behind (A : Am W P w mg base) : Def W P w mg base 7 "state_behind" 3 F_state_behind := by
  obtain ⟨f, fd, F, hm⟩ := A.fn_state_behind
  refine w_def A.fr F sc_state_behind hm (F.bindsN fun _ _ _ _ _ _ us hl => match us, hl with | [_, _, _], _ => rfl) fun cd A1 outer s H E => ?_
  intro C
  exact (w_seq (w_ex (w_call (d_check_state A) (by decide) (w_cons (w_var 0) (w_cons (w_var 1) w_nil)))) (w_seq (w_ex (w_call (d_check_wave A) (by decide) (w_cons (w_var 2) w_nil))) (w_seq (w_ret (w_call (d_state_by A) (by decide) (w_cons (w_var 0) (w_cons (w_var 1) (w_cons (w_var 2) w_nil))))) w_nilS)))
def g_lot_behind : En → Sto → RS := (gSeq (gEx (fCall F_check_lot (fArgs [(fVar 0), (fVar 1)]))) (gSeq (gEx (fCall F_check_wave (fArgs [(fVar 2)]))) (gSeq (gRet (fCall F_lot_by (fArgs [(fVar 0), (fVar 1), (fVar 2)]))) gNil)))
def F_lot_behind : Fn := runF 3 g_lot_behind
theorem sc_lot_behind : FnScope ["ink", "lot", "wave"] ["ink", "lot", "wave"] (defScope (top 41)) := ⟨rfl, rfl, rfl, by decide +kernel, rfl, by decide +kernel, by decide +kernel⟩
theorem d_lot_behind (A : Am W P w mg base) : Def W P w mg base 7 "lot_behind" 3 F_lot_behind := by
  obtain ⟨f, fd, F, hm⟩ := A.fn_lot_behind
  refine w_def A.fr F sc_lot_behind hm (F.bindsN fun _ _ _ _ _ _ us hl => match us, hl with | [_, _, _], _ => rfl) fun cd A1 outer s H E => ?_
  intro C
  exact (w_seq (w_ex (w_call (d_check_lot A) (by decide) (w_cons (w_var 0) (w_cons (w_var 1) w_nil)))) (w_seq (w_ex (w_call (d_check_wave A) (by decide) (w_cons (w_var 2) w_nil))) (w_seq (w_ret (w_call (d_lot_by A) (by decide) (w_cons (w_var 0) (w_cons (w_var 1) (w_cons (w_var 2) w_nil))))) w_nilS)))
def g_shown_by : En → Sto → RS := (gSeq (gEx (fCall F_check_state (fArgs [(fVar 0), (fVar 1)]))) (gSeq (gEx (fCall F_check_wave (fArgs [(fVar 2)]))) (gSeq (gSet 3 (fOpA opLst (fArgs [(fBin opIx (fBin opIx (fVar 0) (fCst (.int 0))) (fVar 1))]))) (gSeq (gFor (fIter (fVar 2)) (.nm 4) (gSeq (gSet 1 (fBin opIx (fCall F_row_of (fArgs [(fVar 0), (fVar 4)])) (fVar 1))) (gSeq (gEx (fMeth "list" opAppend (fVar 3) (fArgs [(fBin opIx (fBin opIx (fVar 0) (fCst (.int 0))) (fVar 1))]))) gNil)) 200) (gSeq (gRet (fOpA opTuple (fArgs [(fVar 3)]))) gNil)))))
def F_shown_by : Fn := runF 5 g_shown_by
theorem sc_shown_by : FnScope ["ink", "state", "wave", "found", "pulse"] ["ink", "state", "wave"] (defScope (top 42)) := ⟨rfl, rfl, rfl, by decide +kernel, rfl, by decide +kernel, by decide +kernel⟩
theorem d_shown_by (A : Am W P w mg base) : Def W P w mg base 7 "shown_by" 3 F_shown_by := by
  obtain ⟨f, fd, F, hm⟩ := A.fn_shown_by
  refine w_def A.fr F sc_shown_by hm (F.bindsN fun _ _ _ _ _ _ us hl => match us, hl with | [_, _, _], _ => rfl) fun cd A1 outer s H E => ?_
  intro C
  exact (w_seq (w_ex (w_call (d_check_state A) (by decide) (w_cons (w_var 0) (w_cons (w_var 1) w_nil)))) (w_seq (w_ex (w_call (d_check_wave A) (by decide) (w_cons (w_var 2) w_nil))) (w_seq (w_set 3 (w_lst (w_cons (w_ix (w_ix (w_var 0) w_int) (w_var 1)) w_nil))) (w_seq (w_for 200 (w_iter (w_var 2)) (w_nm 4) (w_seq (w_set 1 (w_ix (w_call (d_row_of A) (by decide) (w_cons (w_var 0) (w_cons (w_var 4) w_nil))) (w_var 1))) (w_seq (w_ex (w_meth mt_appendC (w_var 3) (w_cons (w_ix (w_ix (w_var 0) w_int) (w_var 1)) w_nil))) w_nilS))) (w_seq (w_ret (w_bltT (w_cons (w_var 3) w_nil))) w_nilS)))))
def g_rests_of : En → Sto → RS := (gSeq (gSet 2 (fOpA opLst (fArgs [(fVar 1)]))) (gSeq (gWhile (fBl (fBin opNotIn (fBin opIx (fBin opIx (fVar 0) (fNeg (fCst (.int 1)))) (fBin opIx (fVar 2) (fNeg (fCst (.int 1))))) (fVar 2))) (gSeq (gEx (fMeth "list" opAppend (fVar 2) (fArgs [(fBin opIx (fBin opIx (fVar 0) (fNeg (fCst (.int 1)))) (fBin opIx (fVar 2) (fNeg (fCst (.int 1)))))]))) gNil) 200) (gSeq (gRet (fVar 2)) gNil)))
def F_rests_of : Fn := runF 3 g_rests_of
theorem sc_rests_of : FnScope ["ink", "state", "found"] ["ink", "state"] (defScope (top 43)) := ⟨rfl, rfl, rfl, by decide +kernel, rfl, by decide +kernel, by decide +kernel⟩
theorem d_rests_of (A : Am W P w mg base) : Def W P w mg base 1 "rests_of" 2 F_rests_of := by
  obtain ⟨f, fd, F, hm⟩ := A.fn_rests_of
  refine w_def A.fr F sc_rests_of hm (F.bindsN fun _ _ _ _ _ _ us hl => match us, hl with | [_, _], _ => rfl) fun cd A1 outer s H E => ?_
  intro C
  exact (w_seq (w_set 2 (w_lst (w_cons (w_var 1) w_nil))) (w_seq (w_while 200 (w_tcmp (w_ix (w_ix (w_var 0) (w_neg w_int)) (w_ix (w_var 2) (w_neg w_int))) (w_var 2)) (w_seq (w_ex (w_meth mt_appendC (w_var 2) (w_cons (w_ix (w_ix (w_var 0) (w_neg w_int)) (w_ix (w_var 2) (w_neg w_int))) w_nil))) w_nilS)) (w_seq (w_ret (w_var 2)) w_nilS)))
def g_settles : En → Sto → RS := (gSeq (gEx (fCall F_check_state (fArgs [(fVar 0), (fVar 1)]))) (gSeq (gSet 2 (fCall F_rests_of (fArgs [(fVar 0), (fVar 1)]))) (gSeq (gSet 3 (fMeth "list" opIndexL (fVar 2) (fArgs [(fBin opIx (fBin opIx (fVar 0) (fNeg (fCst (.int 1)))) (fBin opIx (fVar 2) (fNeg (fCst (.int 1)))))]))) (gSeq (gRet (fOpA opTup (fArgs [(fVar 3), (fOpA opTuple (fArgs [(fOpA opSorted (fArgs [(fSl (fVar 2) (fPart (fVar 3)) fNoP)]))]))]))) gNil))))
def F_settles : Fn := runF 4 g_settles
theorem sc_settles : FnScope ["ink", "state", "found", "number"] ["ink", "state"] (defScope (top 44)) := ⟨rfl, rfl, rfl, by decide +kernel, rfl, by decide +kernel, by decide +kernel⟩
theorem d_settles (A : Am W P w mg base) : Def W P w mg base 7 "settles" 2 F_settles := by
  obtain ⟨f, fd, F, hm⟩ := A.fn_settles
  refine w_def A.fr F sc_settles hm (F.bindsN fun _ _ _ _ _ _ us hl => match us, hl with | [_, _], _ => rfl) fun cd A1 outer s H E => ?_
  intro C
  exact (w_seq (w_ex (w_call (d_check_state A) (by decide) (w_cons (w_var 0) (w_cons (w_var 1) w_nil)))) (w_seq (w_set 2 (w_call (d_rests_of A) (by decide) (w_cons (w_var 0) (w_cons (w_var 1) w_nil)))) (w_seq (w_set 3 (w_meth mt_indexC (w_var 2) (w_cons (w_ix (w_ix (w_var 0) (w_neg w_int)) (w_ix (w_var 2) (w_neg w_int))) w_nil))) (w_seq (w_ret (w_tup (w_cons (w_var 3) (w_cons (w_bltT (w_cons (w_blt (w_cons (w_sl (w_var 2) (w_part (w_var 3)) w_noP) w_nil)) w_nil)) w_nil)))) w_nilS))))
def g_is_closed : En → Sto → RS := (gSeq (gIte (fOrT (fNotT (fTru (fIsi (tyAns "tuple") (fun _ => none) (fVar 1)))) (fOrT (fBl (fBin opEq (fVar 1) (fOpA opTup (fArgs [])))) (fNotT (fTru (fOpA (opAll fun bs => bs.all id) (fArgs [(fComp [3] (fIter (fVar 1)) (.nm 3) fYes (fCall F_is_lot_of (fArgs [(fVar 0), (fVar 3)])) 200)])))))) (gSeq (gRet (fCst (.bl false))) gNil) gNil) (gSeq (gIte (fNotT (fTru (fCall F_is_ascending (fArgs [(fVar 1)])))) (gSeq (gRet (fCst (.bl false))) gNil) gNil) (gSeq (gSet 2 fNo) (gSeq (gRet (fOpA (opAll fun bs => bs.all id) (fArgs [(fComp [3] (fIter (fVar 1)) (.nm 3) fYes (fOpA (opAll fun bs => bs.all id) (fArgs [(fComp [4, 5] (fIter (fCall F_nexts_of (fArgs [(fVar 0), (fVar 3)]))) (.tp [(.nm 4), (.nm 5)]) fYes (fBin opIn (fVar 5) (fVar 2)) 200)])) 200)]))) gNil))))
def F_is_closed : Fn := runF 6 g_is_closed
theorem sc_is_closed : FnScope ["ink", "value", "lots", "lot", "pulse", "later"] ["ink", "value"] (defScope (top 49)) := ⟨rfl, rfl, rfl, by decide +kernel, rfl, by decide +kernel, by decide +kernel⟩
theorem d_is_closed (A : Am W P w mg base) : Def W P w mg base 5 "is_closed" 2 F_is_closed := by
  obtain ⟨f, fd, F, hm⟩ := A.fn_is_closed
  refine w_def A.fr F sc_is_closed hm (F.bindsN fun _ _ _ _ _ _ us hl => match us, hl with | [_, _], _ => rfl) fun cd A1 outer s H E => ?_
  intro C
  exact (w_seq (w_ite ((w_wor (w_tnot (w_test (w_isT "tuple" (w_var 1)))) (w_wor (w_tcmp (w_var 1) (w_tup w_nil)) (w_wor1 (w_tnot (w_test (w_blt (w_cons (w_comp [("lot", 3)] 200 (w_iter (w_var 1)) (fun _ _ _ _ _ => (w_nm 3)) (fun _ _ _ _ _ => w_yes) (fun _ _ _ _ _ => (w_call (d_is_lot_of A) (by decide) (w_cons (w_var 0) (w_cons (w_var 3) w_nil))))) w_nil)))))))).pt (w_seq (w_ret w_bl) w_nilS) w_nilS) (w_seq (w_ite (w_tnot (w_test (w_call (d_is_ascending A) (by decide) (w_cons (w_var 1) w_nil)))) (w_seq (w_ret w_bl) w_nilS) w_nilS) (w_seq (w_set 2 w_no) (w_seq (w_ret (w_blt (w_cons (w_comp [("lot", 3)] 200 (w_iter (w_var 1)) (fun _ _ _ _ _ => (w_nm 3)) (fun _ _ _ _ _ => w_yes) (fun _ _ _ _ _ => (w_blt (w_cons (w_comp [("pulse", 4), ("later", 5)] 200 (w_iter (w_call (d_nexts_of A) (by decide) (w_cons (w_var 0) (w_cons (w_var 3) w_nil)))) (fun _ _ _ _ _ => (w_tgtup (w_tgcons (w_nm 4) (w_tgcons (w_nm 5) w_tgnil)))) (fun _ _ _ _ _ => w_yes) (fun _ _ _ _ _ => (w_cmp (w_var 5) (w_var 2)))) w_nil)))) w_nil))) w_nilS))))
def g_is_book : En → Sto → RS := (gSeq (gEx (fCall F_check_ink (fArgs [(fVar 0)]))) (gSeq (gRet (fCall F_is_closed (fArgs [(fVar 0), (fVar 1)]))) gNil))
def F_is_book : Fn := runF 2 g_is_book
theorem sc_is_book : FnScope ["ink", "value"] ["ink", "value"] (defScope (top 50)) := ⟨rfl, rfl, rfl, by decide +kernel, rfl, by decide +kernel, by decide +kernel⟩
theorem d_is_book (A : Am W P w mg base) : Def W P w mg base 6 "is_book" 2 F_is_book := by
  obtain ⟨f, fd, F, hm⟩ := A.fn_is_book
  refine w_def A.fr F sc_is_book hm (F.bindsN fun _ _ _ _ _ _ us hl => match us, hl with | [_, _], _ => rfl) fun cd A1 outer s H E => ?_
  intro C
  exact (w_seq (w_ex (w_call (d_check_ink A) (by decide) (w_cons (w_var 0) w_nil))) (w_seq (w_ret (w_call (d_is_closed A) (by decide) (w_cons (w_var 0) (w_cons (w_var 1) w_nil)))) w_nilS))
def g_check_wish : En → Sto → RS := (gSeq (gEx (fCall F_check_lot (fArgs [(fVar 0), (fVar 1)]))) (gSeq (gEx (fCall F_check_grey (fArgs [(fVar 2)]))) gNil))
def F_check_wish : Fn := runF 3 g_check_wish
theorem sc_check_wish : FnScope ["ink", "lot", "grey"] ["ink", "lot", "grey"] (defScope (top 51)) := ⟨rfl, rfl, rfl, by decide +kernel, rfl, by decide +kernel, by decide +kernel⟩
theorem d_check_wish (A : Am W P w mg base) : Def W P w mg base 7 "check_wish" 3 F_check_wish := by
  obtain ⟨f, fd, F, hm⟩ := A.fn_check_wish
  refine w_def A.fr F sc_check_wish hm (F.bindsN fun _ _ _ _ _ _ us hl => match us, hl with | [_, _, _], _ => rfl) fun cd A1 outer s H E => ?_
  intro C
  exact (w_seq (w_ex (w_call (d_check_lot A) (by decide) (w_cons (w_var 0) (w_cons (w_var 1) w_nil)))) (w_seq (w_ex (w_call (d_check_grey A) (by decide) (w_cons (w_var 2) w_nil))) w_nilS))
def g_ways_of : En → Sto → RS := (gSeq (gPar 2 3 (fArgs [(fDispT (fVar 1) (fCst (.str ""))), (fOpA opLst (fArgs [(fVar 1)]))])) (gSeq (gWhile (fBl (fBin opNe (fVar 3) (fOpA opLst (fArgs [])))) (gSeq (gSet 4 (fOpA opLst (fArgs []))) (gSeq (gFor (fIter (fVar 3)) (.nm 5) (gSeq (gFor (fIter (fCall F_nexts_of (fArgs [(fVar 0), (fVar 5)]))) (.tp [(.nm 6), (.nm 7)]) (gSeq (gIte (fBl (fBin opNotIn (fVar 7) (fVar 2))) (gSeq (gSetS (fBin opAdd (fBin opIx (fVar 2) (fVar 5)) (fVar 6)) (fVar 2) (fVar 7)) (gSeq (gEx (fMeth "list" opAppend (fVar 4) (fArgs [(fVar 7)]))) gNil)) gNil) gNil) 200) gNil) 200) (gSeq (gSet 3 (fVar 4)) gNil))) 200) (gSeq (gRet (fVar 2)) gNil)))
def F_ways_of : Fn := runF 8 g_ways_of
theorem sc_ways_of : FnScope ["ink", "lot", "found", "edge", "later", "here", "pulse", "there"] ["ink", "lot"] (defScope (top 52)) := ⟨rfl, rfl, rfl, by decide +kernel, rfl, by decide +kernel, by decide +kernel⟩
theorem d_ways_of (A : Am W P w mg base) : Def W P w mg base 5 "ways_of" 2 F_ways_of := by
  obtain ⟨f, fd, F, hm⟩ := A.fn_ways_of
  refine w_def A.fr F sc_ways_of hm (F.bindsN fun _ _ _ _ _ _ us hl => match us, hl with | [_, _], _ => rfl) fun cd A1 outer s H E => ?_
  intro C
  exact (w_seq (w_par 2 3 (w_cons (w_dispT (w_var 1) w_str) (w_cons (w_lst (w_cons (w_var 1) w_nil)) w_nil))) (w_seq (w_while 200 (w_tcmp (w_var 3) (w_lst w_nil)) (w_seq (w_set 4 (w_lst w_nil)) (w_seq (w_for 200 (w_iter (w_var 3)) (w_nm 5) (w_seq (w_for 200 (w_iter (w_call (d_nexts_of A) (by decide) (w_cons (w_var 0) (w_cons (w_var 5) w_nil)))) (w_tgtup (w_tgcons (w_nm 6) (w_tgcons (w_nm 7) w_tgnil))) (w_seq (w_ite (w_tcmp (w_var 7) (w_var 2)) (w_seq (w_setS (w_add (w_ix (w_var 2) (w_var 5)) (w_var 6)) (w_var 2) (w_var 7)) (w_seq (w_ex (w_meth mt_appendC (w_var 4) (w_cons (w_var 7) w_nil))) w_nilS)) w_nilS) w_nilS)) w_nilS)) (w_seq (w_set 3 (w_var 4)) w_nilS)))) (w_seq (w_ret (w_var 2)) w_nilS)))
def g_lots_from : En → Sto → RS := (gSeq (gEx (fCall F_check_lot (fArgs [(fVar 0), (fVar 1)]))) (gSeq (gRet (fOpA opTuple (fArgs [(fOpA opSortedT (fArgs [(fCall F_ways_of (fArgs [(fVar 0), (fVar 1)]))]))]))) gNil))
def F_lots_from : Fn := runF 2 g_lots_from
theorem sc_lots_from : FnScope ["ink", "lot"] ["ink", "lot"] (defScope (top 53)) := ⟨rfl, rfl, rfl, by decide +kernel, rfl, by decide +kernel, by decide +kernel⟩
theorem d_lots_from (A : Am W P w mg base) : Def W P w mg base 7 "lots_from" 2 F_lots_from := by
  obtain ⟨f, fd, F, hm⟩ := A.fn_lots_from
  refine w_def A.fr F sc_lots_from hm (F.bindsN fun _ _ _ _ _ _ us hl => match us, hl with | [_, _], _ => rfl) fun cd A1 outer s H E => ?_
  intro C
  exact (w_seq (w_ex (w_call (d_check_lot A) (by decide) (w_cons (w_var 0) (w_cons (w_var 1) w_nil)))) (w_seq (w_ret (w_bltT (w_cons (w_sortedT (w_cons (w_call (d_ways_of A) (by decide) (w_cons (w_var 0) (w_cons (w_var 1) w_nil))) w_nil)) w_nil))) w_nilS))
def g_best_of : En → Sto → RS := (gSeq (gSet 3 (fCall F_ways_of (fArgs [(fVar 0), (fVar 1)]))) (gSeq (gLock 3 (gSet 4 (fComp [5] (fIter (fVar 3)) (.nm 5) (fTru (fCall F_does_show (fArgs [(fVar 0), (fVar 5), (fVar 2)]))) (fBin opIx (fVar 3) (fVar 5)) 200))) (gSeq (gRet (fIf (fBl (fBin opNe (fVar 4) (fOpA opLst (fArgs [])))) (fBin opIx (fVar 4) (fCst (.int 0))) (fCst .non))) gNil)))
def F_best_of : Fn := runF 6 g_best_of
theorem sc_best_of : FnScope ["ink", "lot", "grey", "ways", "found", "there"] ["ink", "lot", "grey"] (defScope (top 54)) := ⟨rfl, rfl, rfl, by decide +kernel, rfl, by decide +kernel, by decide +kernel⟩
theorem d_best_of (A : Am W P w mg base) : Def W P w mg base 6 "best_of" 3 F_best_of := by
  obtain ⟨f, fd, F, hm⟩ := A.fn_best_of
  refine w_def A.fr F sc_best_of hm (F.bindsN fun _ _ _ _ _ _ us hl => match us, hl with | [_, _, _], _ => rfl) fun cd A1 outer s H E => ?_
  intro C
  exact (w_seq (w_set 3 (w_call (d_ways_of A) (by decide) (w_cons (w_var 0) (w_cons (w_var 1) w_nil)))) (w_seq (w_lockS 3 (w_setComp 4 [("there", 5)] 200 (w_iter (w_var 3)) (fun _ _ _ _ _ => (w_nm 5)) (fun _ _ _ _ _ => (w_oneT (w_test (w_call (d_does_show A) (by decide) (w_cons (w_var 0) (w_cons (w_var 5) (w_cons (w_var 2) w_nil))))))) (fun _ _ _ _ _ => (w_ix (w_var 3) (w_var 5))))) (w_seq (w_ret (w_if (w_tcmp (w_var 4) (w_lst w_nil)) (w_ix (w_var 4) w_int) w_non)) w_nilS)))
def g_wish_told : En → Sto → RS := (gSeq (gEx (fCall F_check_wish (fArgs [(fVar 0), (fVar 1), (fVar 2)]))) (gSeq (gSet 3 (fCall F_best_of (fArgs [(fVar 0), (fVar 1), (fVar 2)]))) (gSeq (gRet (fIf (fBl (fBin opIsNot (fVar 3) (fCst .non))) (fOpA opTup (fArgs [(fCst (.str "wave")), (fVar 3)])) (fOpA opTup (fArgs [(fCst (.str "barred")), (fOpA opTuple (fArgs [(fOpA opSortedT (fArgs [(fCall F_ways_of (fArgs [(fVar 0), (fVar 1)]))]))]))])))) gNil)))
def F_wish_told : Fn := runF 4 g_wish_told
theorem sc_wish_told : FnScope ["ink", "lot", "grey", "wave"] ["ink", "lot", "grey"] (defScope (top 55)) := ⟨rfl, rfl, rfl, by decide +kernel, rfl, by decide +kernel, by decide +kernel⟩
theorem d_wish_told (A : Am W P w mg base) : Def W P w mg base 8 "wish_told" 3 F_wish_told := by
  obtain ⟨f, fd, F, hm⟩ := A.fn_wish_told
  refine w_def A.fr F sc_wish_told hm (F.bindsN fun _ _ _ _ _ _ us hl => match us, hl with | [_, _, _], _ => rfl) fun cd A1 outer s H E => ?_
  intro C
  exact (w_seq (w_ex (w_call (d_check_wish A) (by decide) (w_cons (w_var 0) (w_cons (w_var 1) (w_cons (w_var 2) w_nil))))) (w_seq (w_set 3 (w_call (d_best_of A) (by decide) (w_cons (w_var 0) (w_cons (w_var 1) (w_cons (w_var 2) w_nil))))) (w_seq (w_ret (w_if (w_tcmp (w_var 3) w_non) (w_tup (w_cons (w_gl A.c_WAVE) (w_cons (w_var 3) w_nil))) (w_tup (w_cons (w_gl A.c_BARRED) (w_cons (w_bltT (w_cons (w_sortedT (w_cons (w_call (d_ways_of A) (by decide) (w_cons (w_var 0) (w_cons (w_var 1) w_nil))) w_nil)) w_nil)) w_nil))))) w_nilS)))
def g_does_bar : En → Sto → RS := (gSeq (gIte (fNotT (fTru (fCall F_is_closed (fArgs [(fVar 0), (fVar 3)])))) (gSeq (gRet (fCst (.bl false))) gNil) gNil) (gSeq (gRet (fAndV (fBin opIn (fVar 1) (fVar 3)) (fNotV (fOpA (opAll fun bs => bs.any id) (fArgs [(fComp [4] (fIter (fVar 3)) (.nm 4) fYes (fCall F_does_show (fArgs [(fVar 0), (fVar 4), (fVar 2)])) 200)]))))) gNil))
def F_does_bar : Fn := runF 5 g_does_bar
theorem sc_does_bar : FnScope ["ink", "lot", "grey", "book", "one"] ["ink", "lot", "grey", "book"] (defScope (top 56)) := ⟨rfl, rfl, rfl, by decide +kernel, rfl, by decide +kernel, by decide +kernel⟩
theorem d_does_bar (A : Am W P w mg base) : Def W P w mg base 6 "does_bar" 4 F_does_bar := by
  obtain ⟨f, fd, F, hm⟩ := A.fn_does_bar
  refine w_def A.fr F sc_does_bar hm (F.bindsN fun _ _ _ _ _ _ us hl => match us, hl with | [_, _, _, _], _ => rfl) fun cd A1 outer s H E => ?_
  intro C
  exact (w_seq (w_ite (w_tnot (w_test (w_call (d_is_closed A) (by decide) (w_cons (w_var 0) (w_cons (w_var 3) w_nil))))) (w_seq (w_ret w_bl) w_nilS) w_nilS) (w_seq (w_ret (w_andV (w_cmp (w_var 1) (w_var 3)) (w_and1 (w_notV (w_blt (w_cons (w_comp [("one", 4)] 200 (w_iter (w_var 3)) (fun _ _ _ _ _ => (w_nm 4)) (fun _ _ _ _ _ => w_yes) (fun _ _ _ _ _ => (w_call (d_does_show A) (by decide) (w_cons (w_var 0) (w_cons (w_var 4) (w_cons (w_var 2) w_nil)))))) w_nil)))))) w_nilS))
def g_shows_wish : En → Sto → RS := (gSeq (gEx (fCall F_check_wish (fArgs [(fVar 0), (fVar 1), (fVar 2)]))) (gSeq (gIte (fOrT (fNotT (fTru (fIsi (tyAns "tuple") (fun _ => none) (fVar 3)))) (fOrT (fBl (fBin opNe (fOpA opLen (fArgs [(fVar 3)])) (fCst (.int 2)))) (fNotT (fTru (fIsi (tyAns "str") (fun _ => none) (fBin opIx (fVar 3) (fCst (.int 0)))))))) (gSeq (gRet (fCst (.bl false))) gNil) gNil) (gSeq (gIte (fBl (fBin opEq (fBin opIx (fVar 3) (fCst (.int 0))) (fCst (.str "wave")))) (gSeq (gRet (fAndV (fCall F_is_wave (fArgs [(fBin opIx (fVar 3) (fCst (.int 1)))])) (fCall F_does_show (fArgs [(fVar 0), (fCall F_lot_by (fArgs [(fVar 0), (fVar 1), (fBin opIx (fVar 3) (fCst (.int 1)))])), (fVar 2)])))) gNil) gNil) (gSeq (gRet (fAndV (fBin opEq (fBin opIx (fVar 3) (fCst (.int 0))) (fCst (.str "barred"))) (fCall F_does_bar (fArgs [(fVar 0), (fVar 1), (fVar 2), (fBin opIx (fVar 3) (fCst (.int 1)))])))) gNil))))
def F_shows_wish : Fn := runF 4 g_shows_wish
theorem sc_shows_wish : FnScope ["ink", "lot", "grey", "value"] ["ink", "lot", "grey", "value"] (defScope (top 57)) := ⟨rfl, rfl, rfl, by decide +kernel, rfl, by decide +kernel, by decide +kernel⟩
theorem d_shows_wish (A : Am W P w mg base) : Def W P w mg base 8 "shows_wish" 4 F_shows_wish := by
  obtain ⟨f, fd, F, hm⟩ := A.fn_shows_wish
  refine w_def A.fr F sc_shows_wish hm (F.bindsN fun _ _ _ _ _ _ us hl => match us, hl with | [_, _, _, _], _ => rfl) fun cd A1 outer s H E => ?_
  intro C
  exact (w_seq (w_ex (w_call (d_check_wish A) (by decide) (w_cons (w_var 0) (w_cons (w_var 1) (w_cons (w_var 2) w_nil))))) (w_seq (w_ite ((w_wor (w_tnot (w_test (w_isT "tuple" (w_var 3)))) (w_wor (w_tcmp (w_blt (w_cons (w_var 3) w_nil)) w_int) (w_wor1 (w_tnot (w_test (w_isT "str" (w_ix (w_var 3) w_int)))))))).pt (w_seq (w_ret w_bl) w_nilS) w_nilS) (w_seq (w_ite (w_tcmp (w_ix (w_var 3) w_int) (w_gl A.c_WAVE)) (w_seq (w_ret (w_andV (w_call (d_is_wave A) (by decide) (w_cons (w_ix (w_var 3) w_int) w_nil)) (w_and1 (w_call (d_does_show A) (by decide) (w_cons (w_var 0) (w_cons (w_call (d_lot_by A) (by decide) (w_cons (w_var 0) (w_cons (w_var 1) (w_cons (w_ix (w_var 3) w_int) w_nil)))) (w_cons (w_var 2) w_nil))))))) w_nilS) w_nilS) (w_seq (w_ret (w_andV (w_cmp (w_ix (w_var 3) w_int) (w_gl A.c_BARRED)) (w_and1 (w_call (d_does_bar A) (by decide) (w_cons (w_var 0) (w_cons (w_var 1) (w_cons (w_var 2) (w_cons (w_ix (w_var 3) w_int) w_nil)))))))) w_nilS))))
def g_shortest_wish : En → Sto → RS := (gSeq (gEx (fCall F_check_wish (fArgs [(fVar 0), (fVar 1), (fVar 2)]))) (gSeq (gSet 3 (fCall F_best_of (fArgs [(fVar 0), (fVar 1), (fVar 2)]))) (gSeq (gRet (fIf (fBl (fBin opIs (fVar 3) (fCst .non))) (fCst .non) (fOpA opTup (fArgs [(fOpA opLen (fArgs [(fVar 3)])), (fVar 3)])))) gNil)))
def F_shortest_wish : Fn := runF 4 g_shortest_wish
theorem sc_shortest_wish : FnScope ["ink", "lot", "grey", "wave"] ["ink", "lot", "grey"] (defScope (top 58)) := ⟨rfl, rfl, rfl, by decide +kernel, rfl, by decide +kernel, by decide +kernel⟩
theorem d_shortest_wish (A : Am W P w mg base) : Def W P w mg base 8 "shortest_wish" 3 F_shortest_wish := by
  obtain ⟨f, fd, F, hm⟩ := A.fn_shortest_wish
  refine w_def A.fr F sc_shortest_wish hm (F.bindsN fun _ _ _ _ _ _ us hl => match us, hl with | [_, _, _], _ => rfl) fun cd A1 outer s H E => ?_
  intro C
  exact (w_seq (w_ex (w_call (d_check_wish A) (by decide) (w_cons (w_var 0) (w_cons (w_var 1) (w_cons (w_var 2) w_nil))))) (w_seq (w_set 3 (w_call (d_best_of A) (by decide) (w_cons (w_var 0) (w_cons (w_var 1) (w_cons (w_var 2) w_nil))))) (w_seq (w_ret (w_if (w_tcmp (w_var 3) w_non) w_non (w_tup (w_cons (w_blt (w_cons (w_var 3) w_nil)) (w_cons (w_var 3) w_nil))))) w_nilS)))
def g_shows_shortest : En → Sto → RS := (gSeq (gEx (fCall F_check_wish (fArgs [(fVar 0), (fVar 1), (fVar 2)]))) (gSeq (gSet 4 (fCall F_best_of (fArgs [(fVar 0), (fVar 1), (fVar 2)]))) (gSeq (gIte (fOrT (fBl (fBin opIs (fVar 4) (fCst .non))) (fOrT (fNotT (fTru (fIsi (tyAns "tuple") (fun _ => none) (fVar 3)))) (fBl (fBin opNe (fOpA opLen (fArgs [(fVar 3)])) (fCst (.int 2)))))) (gSeq (gRet (fAndV (fBin opIs (fVar 4) (fCst .non)) (fBin opIs (fVar 3) (fCst .non)))) gNil) gNil) (gSeq (gIte (fOrT (fNotT (fTru (fCall F_is_integer (fArgs [(fBin opIx (fVar 3) (fCst (.int 0)))])))) (fOrT (fNotT (fTru (fCall F_is_wave (fArgs [(fBin opIx (fVar 3) (fCst (.int 1)))])))) (fOrT (fBl (fBin opNe (fBin opIx (fVar 3) (fCst (.int 0))) (fOpA opLen (fArgs [(fVar 4)])))) (fBl (fBin opNe (fOpA opLen (fArgs [(fBin opIx (fVar 3) (fCst (.int 1)))])) (fBin opIx (fVar 3) (fCst (.int 0)))))))) (gSeq (gRet (fCst (.bl false))) gNil) gNil) (gSeq (gRet (fCall F_does_show (fArgs [(fVar 0), (fCall F_lot_by (fArgs [(fVar 0), (fVar 1), (fBin opIx (fVar 3) (fCst (.int 1)))])), (fVar 2)]))) gNil)))))
def F_shows_shortest : Fn := runF 5 g_shows_shortest
theorem sc_shows_shortest : FnScope ["ink", "lot", "grey", "value", "wave"] ["ink", "lot", "grey", "value"] (defScope (top 59)) := ⟨rfl, rfl, rfl, by decide +kernel, rfl, by decide +kernel, by decide +kernel⟩
theorem d_shows_shortest (A : Am W P w mg base) : Def W P w mg base 8 "shows_shortest" 4 F_shows_shortest := by
  obtain ⟨f, fd, F, hm⟩ := A.fn_shows_shortest
  refine w_def A.fr F sc_shows_shortest hm (F.bindsN fun _ _ _ _ _ _ us hl => match us, hl with | [_, _, _, _], _ => rfl) fun cd A1 outer s H E => ?_
  intro C
  exact (w_seq (w_ex (w_call (d_check_wish A) (by decide) (w_cons (w_var 0) (w_cons (w_var 1) (w_cons (w_var 2) w_nil))))) (w_seq (w_set 4 (w_call (d_best_of A) (by decide) (w_cons (w_var 0) (w_cons (w_var 1) (w_cons (w_var 2) w_nil))))) (w_seq (w_ite ((w_wor (w_tcmp (w_var 4) w_non) (w_wor (w_tnot (w_test (w_isT "tuple" (w_var 3)))) (w_wor1 (w_tcmp (w_blt (w_cons (w_var 3) w_nil)) w_int))))).pt (w_seq (w_ret (w_andV (w_cmp (w_var 4) w_non) (w_and1 (w_cmp (w_var 3) w_non)))) w_nilS) w_nilS) (w_seq (w_ite ((w_wor (w_tnot (w_test (w_call (d_is_integer A) (by decide) (w_cons (w_ix (w_var 3) w_int) w_nil)))) (w_wor (w_tnot (w_test (w_call (d_is_wave A) (by decide) (w_cons (w_ix (w_var 3) w_int) w_nil)))) (w_wor (w_tcmp (w_ix (w_var 3) w_int) (w_blt (w_cons (w_var 4) w_nil))) (w_wor1 (w_tcmp (w_blt (w_cons (w_ix (w_var 3) w_int) w_nil)) (w_ix (w_var 3) w_int))))))).pt (w_seq (w_ret w_bl) w_nilS) w_nilS) (w_seq (w_ret (w_call (d_does_show A) (by decide) (w_cons (w_var 0) (w_cons (w_call (d_lot_by A) (by decide) (w_cons (w_var 0) (w_cons (w_var 1) (w_cons (w_ix (w_var 3) w_int) w_nil)))) (w_cons (w_var 2) w_nil))))) w_nilS)))))
def g_wish_count : En → Sto → RS := (gSeq (gEx (fCall F_check_wish (fArgs [(fVar 0), (fVar 1), (fVar 2)]))) (gSeq (gIte (fNotT (fTru (fCall F_is_between (fArgs [(fVar 3), (fCst (.int 0)), (fCst (.int 30))])))) (gSeq (gRaise 4 (fVar 3)) gNil) gNil) (gSeq (gSet 4 (fDispT (fVar 1) (fCst (.int 1)))) (gSeq (gFor (fRng1 (fVar 3)) (.nm 5) (gSeq (gSet 6 fNewT) (gSeq (gLock 4 (gFor (fIter (fVar 4)) (.nm 7) (gSeq (gFor (fIter (fCall F_nexts_of (fArgs [(fVar 0), (fVar 7)]))) (.tp [(.nm 8), (.nm 9)]) (gSeq (gSetS (fBin opAdd (fMeth "dict" opGet (fVar 6) (fArgs [(fVar 9), (fCst (.int 0))])) (fBin opIx (fVar 4) (fVar 7))) (fVar 6) (fVar 9)) gNil) 200) gNil) 200)) (gSeq (gSet 4 (fVar 6)) gNil))) 200) (gSeq (gRet (fOpA opSum (fArgs [(fLock 4 (fComp [9] (fIter (fVar 4)) (.nm 9) (fTru (fCall F_does_show (fArgs [(fVar 0), (fVar 9), (fVar 2)]))) (fBin opIx (fVar 4) (fVar 9)) 200))]))) gNil)))))
def F_wish_count : Fn := runF 10 g_wish_count
theorem sc_wish_count : FnScope ["ink", "lot", "grey", "number", "found", "lap", "later", "here", "pulse", "there"] ["ink", "lot", "grey", "number"] (defScope (top 60)) := ⟨rfl, rfl, rfl, by decide +kernel, rfl, by decide +kernel, by decide +kernel⟩
theorem d_wish_count (A : Am W P w mg base) : Def W P w mg base 8 "wish_count" 4 F_wish_count := by
  obtain ⟨f, fd, F, hm⟩ := A.fn_wish_count
  refine w_def A.fr F sc_wish_count hm (F.bindsN fun _ _ _ _ _ _ us hl => match us, hl with | [_, _, _, _], _ => rfl) fun cd A1 outer s H E => ?_
  intro C
  exact (w_seq (w_ex (w_call (d_check_wish A) (by decide) (w_cons (w_var 0) (w_cons (w_var 1) (w_cons (w_var 2) w_nil))))) (w_seq (w_ite (w_tnot (w_test (w_call (d_is_between A) (by decide) (w_cons (w_var 3) (w_cons w_int (w_cons (w_gl A.c_MOST_NUMBER) w_nil)))))) (w_seq (w_raise 4 A.x_BadNumber (w_var 3)) w_nilS) w_nilS) (w_seq (w_set 4 (w_dispT (w_var 1) w_int)) (w_seq (w_for 200 (w_range1 (w_var 3)) (w_nm 5) (w_seq (w_set 6 w_newT) (w_seq (w_lockS 4 (w_for 200 (w_iter (w_var 4)) (w_nm 7) (w_seq (w_for 200 (w_iter (w_call (d_nexts_of A) (by decide) (w_cons (w_var 0) (w_cons (w_var 7) w_nil)))) (w_tgtup (w_tgcons (w_nm 8) (w_tgcons (w_nm 9) w_tgnil))) (w_seq (w_setS (w_add (w_meth mt_getC (w_var 6) (w_cons (w_var 9) (w_cons w_int w_nil))) (w_ix (w_var 4) (w_var 7))) (w_var 6) (w_var 9)) w_nilS)) w_nilS))) (w_seq (w_set 4 (w_var 6)) w_nilS)))) (w_seq (w_ret (w_blt (w_cons (w_lockE 4 (w_comp [("there", 9)] 200 (w_iter (w_var 4)) (fun _ _ _ _ _ => (w_nm 9)) (fun _ _ _ _ _ => (w_oneT (w_test (w_call (d_does_show A) (by decide) (w_cons (w_var 0) (w_cons (w_var 9) (w_cons (w_var 2) w_nil))))))) (fun _ _ _ _ _ => (w_ix (w_var 4) (w_var 9))))) w_nil))) w_nilS)))))
def g_wishes : En → Sto → RS := (gSeq (gEx (fCall F_check_lot (fArgs [(fVar 0), (fVar 1)]))) (gSeq (gSet 2 (fOpA opListT (fArgs [(fCall F_ways_of (fArgs [(fVar 0), (fVar 1)]))]))) (gSeq (gRet (fOpA opTuple (fArgs [(fComp [3] (fRng1 (fBin opAdd (fCst (.int 7)) (fCst (.int 1)))) (.nm 3) (fTru (fOpA (opAll fun bs => bs.any id) (fArgs [(fComp [4] (fIter (fVar 2)) (.nm 4) fYes (fCall F_does_show (fArgs [(fVar 0), (fVar 4), (fVar 3)])) 200)]))) (fVar 3) 200)]))) gNil)))
def F_wishes : Fn := runF 5 g_wishes
theorem sc_wishes : FnScope ["ink", "lot", "ways", "grey", "there"] ["ink", "lot"] (defScope (top 61)) := ⟨rfl, rfl, rfl, by decide +kernel, rfl, by decide +kernel, by decide +kernel⟩
theorem d_wishes (A : Am W P w mg base) : Def W P w mg base 7 "wishes" 2 F_wishes := by
  obtain ⟨f, fd, F, hm⟩ := A.fn_wishes
  refine w_def A.fr F sc_wishes hm (F.bindsN fun _ _ _ _ _ _ us hl => match us, hl with | [_, _], _ => rfl) fun cd A1 outer s H E => ?_
  intro C
  exact (w_seq (w_ex (w_call (d_check_lot A) (by decide) (w_cons (w_var 0) (w_cons (w_var 1) w_nil)))) (w_seq (w_set 2 (w_listT (w_cons (w_call (d_ways_of A) (by decide) (w_cons (w_var 0) (w_cons (w_var 1) w_nil))) w_nil))) (w_seq (w_ret (w_bltT (w_cons (w_comp [("grey", 3)] 200 (w_range1 (w_add (w_gl A.c_MOST_GREY) w_int)) (fun _ _ _ _ _ => (w_nm 3)) (fun _ _ _ _ _ => (w_oneT (w_test (w_blt (w_cons (w_comp [("there", 4)] 200 (w_iter (w_var 2)) (fun _ _ _ _ _ => (w_nm 4)) (fun _ _ _ _ _ => w_yes) (fun _ _ _ _ _ => (w_call (d_does_show A) (by decide) (w_cons (w_var 0) (w_cons (w_var 4) (w_cons (w_var 3) w_nil)))))) w_nil))))) (fun _ _ _ _ _ => (w_var 3))) w_nil))) w_nilS)))
def g_is_steady : En → Sto → RS := (gSeq (gEx (fCall F_check_lot (fArgs [(fVar 0), (fVar 1)]))) (gSeq (gSet 2 (fOpA opLst (fArgs []))) (gSeq (gFor (fIter (fVar 1)) (.nm 3) (gSeq (gEx (fMeth "list" opExtend (fVar 2) (fArgs [(fCall F_rests_of (fArgs [(fVar 0), (fVar 3)]))]))) gNil) 200) (gSeq (gRet (fBin opEq (fOpA opLen (fArgs [(fCall F_greys_by (fArgs [(fVar 0), (fVar 2)]))])) (fCst (.int 1)))) gNil))))
def F_is_steady : Fn := runF 4 g_is_steady
theorem sc_is_steady : FnScope ["ink", "lot", "states", "state"] ["ink", "lot"] (defScope (top 62)) := ⟨rfl, rfl, rfl, by decide +kernel, rfl, by decide +kernel, by decide +kernel⟩
theorem d_is_steady (A : Am W P w mg base) : Def W P w mg base 7 "is_steady" 2 F_is_steady := by
  obtain ⟨f, fd, F, hm⟩ := A.fn_is_steady
  refine w_def A.fr F sc_is_steady hm (F.bindsN fun _ _ _ _ _ _ us hl => match us, hl with | [_, _], _ => rfl) fun cd A1 outer s H E => ?_
  intro C
  exact (w_seq (w_ex (w_call (d_check_lot A) (by decide) (w_cons (w_var 0) (w_cons (w_var 1) w_nil)))) (w_seq (w_set 2 (w_lst w_nil)) (w_seq (w_for 200 (w_iter (w_var 1)) (w_nm 3) (w_seq (w_ex (w_meth mt_extendC (w_var 2) (w_cons (w_call (d_rests_of A) (by decide) (w_cons (w_var 0) (w_cons (w_var 3) w_nil))) w_nil))) w_nilS)) (w_seq (w_ret (w_cmp (w_blt (w_cons (w_call (d_greys_by A) (by decide) (w_cons (w_var 0) (w_cons (w_var 2) w_nil))) w_nil)) w_int)) w_nilS))))
def g__law_pot : En → Sto → RS := (gSeq (gSet 2 (fIf (fBl (fBin opLt (fVar 1) (fOpA opLen (fArgs [(fVar 0)])))) (fBin opIx (fVar 0) (fVar 1)) (fBin opAdd (fBin opAdd (fBin opMod (fOpA opInt (fArgs [(fGC (fOpA opSum (fArgs [(fSl (fVar 0) fNoP (fPart (fCst (.int 1))))])))])) (fCst (.int 1000003))) (fBin opMul (fCst (.int 3534)) (fVar 1))) (fCst (.int 8408))))) (gSeq (gSet 3 (fBin opMul (fBin opMod (fOpA opInt (fArgs [(fOpA opAbs (fArgs [(fVar 2)]))])) (fBin opPow (fBin opPow (fCst (.int 10)) (fCst (.int 60))) (fCst (.int 5)))) (fOpA opInt (fArgs [(fBin opGe (fOpA opAbs (fArgs [(fVar 2)])) (fBin opPow (fCst (.int 10)) (fCst (.int 18))))])))) (gSeq (gSet 4 (fBin opMod (fOpA opInt (fArgs [(fVar 2)])) (fCst (.int 2305843009213693951)))) (gSeq (gRet (fOpA opLst (fArgs [(fVar 3), (fBin opMod (fOpA opInt (fArgs [(fBin opAdd (fBin opAdd (fBin opMul (fVar 4) (fCst (.int 93619))) (fBin opMul (fBin opMul (fCst (.int 13677)) (fVar 1)) (fVar 1))) (fCst (.int 2934)))])) (fCst (.int 2305843009213693921))), (fCst (.int 0))]))) gNil))))
def F__law_pot : Fn := runF 5 g__law_pot
theorem sc__law_pot : FnScope ["script", "place", "cell", "own", "small"] ["script", "place"] (defScope (top 64)) := ⟨rfl, rfl, rfl, by decide +kernel, rfl, by decide +kernel, by decide +kernel⟩
theorem d__law_pot (A : Am W P w mg base) : Def W P w mg base 1 "_law_pot" 2 F__law_pot := by
  obtain ⟨f, fd, F, hm⟩ := A.fn__law_pot
  refine w_def A.fr F sc__law_pot hm (F.bindsN fun _ _ _ _ _ _ us hl => match us, hl with | [_, _], _ => rfl) fun cd A1 outer s H E => ?_
  intro C
  exact (w_seq (w_set 2 (w_if (w_tcmp (w_var 1) (w_blt (w_cons (w_var 0) w_nil))) (w_ix (w_var 0) (w_var 1)) (w_add (w_add (w_mod (w_bltT (w_cons (w_gc (w_blt (w_cons (w_sl (w_var 0) w_noP (w_part w_int)) w_nil))) w_nil)) w_int) (w_mul w_int (w_var 1))) w_int))) (w_seq (w_set 3 (w_mul (w_mod (w_bltT (w_cons (w_blt (w_cons (w_var 2) w_nil)) w_nil)) (w_pow (w_pow w_int w_int) w_int)) (w_bltT (w_cons (w_cmp (w_blt (w_cons (w_var 2) w_nil)) (w_pow w_int w_int)) w_nil)))) (w_seq (w_set 4 (w_mod (w_bltT (w_cons (w_var 2) w_nil)) w_int)) (w_seq (w_ret (w_lst (w_cons (w_var 3) (w_cons (w_mod (w_bltT (w_cons (w_add (w_add (w_mul (w_var 4) w_int) (w_mul (w_mul w_int (w_var 1)) (w_var 1))) w_int) w_nil)) w_int) (w_cons w_int w_nil))))) w_nilS))))
def g__law_take : En → Sto → RS := (gSeq (gIte (fBl (fBin opGt (fBin opIx (fVar 0) (fCst (.int 0))) (fCst (.int 0)))) (gSeq (gSet 4 (fBin opMod (fOpA opInt (fArgs [(fBin opIx (fVar 0) (fCst (.int 0)))])) (fVar 1))) (gSeq (gSetS (fBin opFdiv (fBin opIx (fVar 0) (fCst (.int 0))) (fVar 1)) (fVar 0) (fCst (.int 0))) (gSeq (gRet (fVar 4)) gNil))) gNil) (gSeq (gSetS (fBin opAdd (fBin opIx (fVar 0) (fCst (.int 2))) (fCst (.int 1))) (fVar 0) (fCst (.int 2))) (gSeq (gSet 2 (fGC (fBin opIx (fOpA opLst (fArgs [(fCst (.int 2147483647)), (fCst (.int 2147483629)), (fCst (.int 2147483587)), (fCst (.int 2147483579))])) (fBin opMod (fOpA opInt (fArgs [(fBin opIx (fVar 0) (fCst (.int 2)))])) (fCst (.int 4)))))) (gSeq (gSet 3 (fBin opMod (fOpA opInt (fArgs [(fBin opPow (fOpA opInt (fArgs [(fBin opAdd (fBin opAdd (fBin opIx (fVar 0) (fCst (.int 1))) (fBin opMul (fBin opMul (fCst (.int 135669)) (fBin opIx (fVar 0) (fCst (.int 2)))) (fBin opIx (fVar 0) (fCst (.int 2))))) (fCst (.int 3634)))])) (fCst (.int 3)))])) (fVar 2))) (gSeq (gRet (fBin opMod (fOpA opInt (fArgs [(fBin opFdiv (fBin opMul (fVar 3) (fBin opAdd (fBin opMod (fOpA opInt (fArgs [(fVar 3)])) (fCst (.int 10007))) (fBin opMul (fCst (.int 2836)) (fBin opIx (fVar 0) (fCst (.int 2)))))) (fCst (.int 307)))])) (fVar 1))) gNil)))))
def F__law_take : Fn := runF 5 g__law_take
theorem sc__law_take : FnScope ["pot", "upto", "prime", "blend", "digit"] ["pot", "upto"] (defScope (top 65)) := ⟨rfl, rfl, rfl, by decide +kernel, rfl, by decide +kernel, by decide +kernel⟩
theorem d__law_take (A : Am W P w mg base) : Def W P w mg base 1 "_law_take" 2 F__law_take := by
  obtain ⟨f, fd, F, hm⟩ := A.fn__law_take
  refine w_def A.fr F sc__law_take hm (F.bindsN fun _ _ _ _ _ _ us hl => match us, hl with | [_, _], _ => rfl) fun cd A1 outer s H E => ?_
  intro C
  exact (w_seq (w_ite (w_tcmp (w_ix (w_var 0) w_int) w_int) (w_seq (w_set 4 (w_mod (w_bltT (w_cons (w_ix (w_var 0) w_int) w_nil)) (w_var 1))) (w_seq (w_setS (w_fdiv (w_ix (w_var 0) w_int) (w_var 1)) (w_var 0) w_int) (w_seq (w_ret (w_var 4)) w_nilS))) w_nilS) (w_seq (w_setS (w_add (w_ix (w_var 0) w_int) w_int) (w_var 0) w_int) (w_seq (w_set 2 (w_gc (w_ix (w_lst (w_cons w_int (w_cons w_int (w_cons w_int (w_cons w_int w_nil))))) (w_mod (w_bltT (w_cons (w_ix (w_var 0) w_int) w_nil)) w_int)))) (w_seq (w_set 3 (w_mod (w_bltT (w_cons (w_pow (w_bltT (w_cons (w_add (w_add (w_ix (w_var 0) w_int) (w_mul (w_mul w_int (w_ix (w_var 0) w_int)) (w_ix (w_var 0) w_int))) w_int) w_nil)) w_int) w_nil)) (w_var 2))) (w_seq (w_ret (w_mod (w_bltT (w_cons (w_fdiv (w_mul (w_var 3) (w_add (w_mod (w_bltT (w_cons (w_var 3) w_nil)) w_int) (w_mul w_int (w_ix (w_var 0) w_int)))) w_int) w_nil)) (w_var 1))) w_nilS)))))
def g__law_of : En → Sto → RS := (gSeq (gRet (fBin opIx (fVar 1) (fCall F__law_take (fArgs [(fVar 0), (fOpA opLen (fArgs [(fVar 1)]))])))) gNil)
def F__law_of : Fn := runF 2 g__law_of
theorem sc__law_of : FnScope ["pot", "some"] ["pot", "some"] (defScope (top 66)) := ⟨rfl, rfl, rfl, by decide +kernel, rfl, by decide +kernel, by decide +kernel⟩
theorem d__law_of (A : Am W P w mg base) : Def W P w mg base 2 "_law_of" 2 F__law_of := by
  obtain ⟨f, fd, F, hm⟩ := A.fn__law_of
  refine w_def A.fr F sc__law_of hm (F.bindsN fun _ _ _ _ _ _ us hl => match us, hl with | [_, _], _ => rfl) fun cd A1 outer s H E => ?_
  intro C
  exact (w_seq (w_ret (w_ix (w_var 1) (w_call (d__law_take A) (by decide) (w_cons (w_var 0) (w_cons (w_blt (w_cons (w_var 1) w_nil)) w_nil))))) w_nilS)
def g__law_cells : En → Sto → RS := (gSeq (gRet (fLr1 (fOpA opMax2 (fArgs [(fCst (.int 1)), (fOpA opMin2 (fArgs [(fVar 1), (fOpA opLen (fArgs [(fVar 0)]))]))])))) gNil)
def F__law_cells : Fn := runF 2 g__law_cells
theorem sc__law_cells : FnScope ["script", "limit"] ["script", "limit"] (defScope (top 67)) := ⟨rfl, rfl, rfl, by decide +kernel, rfl, by decide +kernel, by decide +kernel⟩
theorem d__law_cells (A : Am W P w mg base) : Def W P w mg base 1 "_law_cells" 2 F__law_cells := by
  obtain ⟨f, fd, F, hm⟩ := A.fn__law_cells
  refine w_def A.fr F sc__law_cells hm (F.bindsN fun _ _ _ _ _ _ us hl => match us, hl with | [_, _], _ => rfl) fun cd A1 outer s H E => ?_
  intro C
  exact (w_seq (w_ret (w_lr1 (w_blt (w_cons w_int (w_cons (w_blt (w_cons (w_var 1) (w_cons (w_blt (w_cons (w_var 0) w_nil)) w_nil))) w_nil))))) w_nilS)
def fe_lam0 : FE := (fCall F_state_behind (fArgs [(fVar 0), (fVar 1), (fVar 2)]))
theorem lam_ok0 (A : Am W P w mg base) : LamOk W P w mg base 8 0 ["ink", "state", "wave"] fe_lam0 := by
  refine lamOk_of A.fr (A.lam 0) (by decide +kernel) (by kernel_rfl) (fun _ _ _ _ => rfl) fun f c1 A1 outer s H E => ?_
  intro C
  exact (w_call (d_state_behind A) (by decide) (w_cons (w_var 0) (w_cons (w_var 1) (w_cons (w_var 2) w_nil))))
def fe_lam1 : FE := (fCall F_lot_behind (fArgs [(fVar 0), (fVar 1), (fVar 2)]))
theorem lam_ok1 (A : Am W P w mg base) : LamOk W P w mg base 8 1 ["ink", "lot", "wave"] fe_lam1 := by
  refine lamOk_of A.fr (A.lam 1) (by decide +kernel) (by kernel_rfl) (fun _ _ _ _ => rfl) fun f c1 A1 outer s H E => ?_
  intro C
  exact (w_call (d_lot_behind A) (by decide) (w_cons (w_var 0) (w_cons (w_var 1) (w_cons (w_var 2) w_nil))))
def fe_lam2 : FE := (fCall F_shown_by (fArgs [(fVar 0), (fVar 1), (fVar 2)]))
theorem lam_ok2 (A : Am W P w mg base) : LamOk W P w mg base 8 2 ["ink", "state", "wave"] fe_lam2 := by
  refine lamOk_of A.fr (A.lam 2) (by decide +kernel) (by kernel_rfl) (fun _ _ _ _ => rfl) fun f c1 A1 outer s H E => ?_
  intro C
  exact (w_call (d_shown_by A) (by decide) (w_cons (w_var 0) (w_cons (w_var 1) (w_cons (w_var 2) w_nil))))
def fe_lam3 : FE := (fCall F_settles (fArgs [(fVar 0), (fVar 1)]))
theorem lam_ok3 (A : Am W P w mg base) : LamOk W P w mg base 8 3 ["ink", "state"] fe_lam3 := by
  refine lamOk_of A.fr (A.lam 3) (by decide +kernel) (by kernel_rfl) (fun _ _ _ _ => rfl) fun f c1 A1 outer s H E => ?_
  intro C
  exact (w_call (d_settles A) (by decide) (w_cons (w_var 0) (w_cons (w_var 1) w_nil)))
def fe_lam4 : FE := (fCall F_greys_of (fArgs [(fVar 0), (fVar 1)]))
theorem lam_ok4 (A : Am W P w mg base) : LamOk W P w mg base 8 4 ["ink", "lot"] fe_lam4 := by
  refine lamOk_of A.fr (A.lam 4) (by decide +kernel) (by kernel_rfl) (fun _ _ _ _ => rfl) fun f c1 A1 outer s H E => ?_
  intro C
  exact (w_call (d_greys_of A) (by decide) (w_cons (w_var 0) (w_cons (w_var 1) w_nil)))
def fe_lam5 : FE := (fCall F_all_of (fArgs [(fVar 0), (fVar 1)]))
theorem lam_ok5 (A : Am W P w mg base) : LamOk W P w mg base 8 5 ["ink", "grey"] fe_lam5 := by
  refine lamOk_of A.fr (A.lam 5) (by decide +kernel) (by kernel_rfl) (fun _ _ _ _ => rfl) fun f c1 A1 outer s H E => ?_
  intro C
  exact (w_call (d_all_of A) (by decide) (w_cons (w_var 0) (w_cons (w_var 1) w_nil)))
def fe_lam6 : FE := (fCall F_is_book (fArgs [(fVar 0), (fCst .non)]))
theorem lam_ok6 (A : Am W P w mg base) : LamOk W P w mg base 8 6 ["ink"] fe_lam6 := by
  refine lamOk_of A.fr (A.lam 6) (by decide +kernel) (by kernel_rfl) (fun _ _ _ _ => rfl) fun f c1 A1 outer s H E => ?_
  intro C
  exact (w_call (d_is_book A) (by decide) (w_cons (w_var 0) (w_cons w_non w_nil)))
def fe_lam7 : FE := (fCall F_wish_told (fArgs [(fVar 0), (fVar 1), (fVar 2)]))
theorem lam_ok7 (A : Am W P w mg base) : LamOk W P w mg base 8 7 ["ink", "lot", "grey"] fe_lam7 := by
  refine lamOk_of A.fr (A.lam 7) (by decide +kernel) (by kernel_rfl) (fun _ _ _ _ => rfl) fun f c1 A1 outer s H E => ?_
  intro C
  exact (w_call (d_wish_told A) (by decide) (w_cons (w_var 0) (w_cons (w_var 1) (w_cons (w_var 2) w_nil))))
def fe_lam8 : FE := (fCall F_shows_wish (fArgs [(fVar 0), (fVar 1), (fVar 2), (fCst .non)]))
theorem lam_ok8 (A : Am W P w mg base) : LamOk W P w mg base 8 8 ["ink", "lot", "grey"] fe_lam8 := by
  refine lamOk_of A.fr (A.lam 8) (by decide +kernel) (by kernel_rfl) (fun _ _ _ _ => rfl) fun f c1 A1 outer s H E => ?_
  intro C
  exact (w_call (d_shows_wish A) (by decide) (w_cons (w_var 0) (w_cons (w_var 1) (w_cons (w_var 2) (w_cons w_non w_nil)))))
def fe_lam9 : FE := (fCall F_shortest_wish (fArgs [(fVar 0), (fVar 1), (fVar 2)]))
theorem lam_ok9 (A : Am W P w mg base) : LamOk W P w mg base 8 9 ["ink", "lot", "grey"] fe_lam9 := by
  refine lamOk_of A.fr (A.lam 9) (by decide +kernel) (by kernel_rfl) (fun _ _ _ _ => rfl) fun f c1 A1 outer s H E => ?_
  intro C
  exact (w_call (d_shortest_wish A) (by decide) (w_cons (w_var 0) (w_cons (w_var 1) (w_cons (w_var 2) w_nil))))
def fe_lam10 : FE := (fCall F_shows_shortest (fArgs [(fVar 0), (fVar 1), (fVar 2), (fCst .non)]))
theorem lam_ok10 (A : Am W P w mg base) : LamOk W P w mg base 8 10 ["ink", "lot", "grey"] fe_lam10 := by
  refine lamOk_of A.fr (A.lam 10) (by decide +kernel) (by kernel_rfl) (fun _ _ _ _ => rfl) fun f c1 A1 outer s H E => ?_
  intro C
  exact (w_call (d_shows_shortest A) (by decide) (w_cons (w_var 0) (w_cons (w_var 1) (w_cons (w_var 2) (w_cons w_non w_nil)))))
def fe_lam11 : FE := (fCall F_wish_count (fArgs [(fVar 0), (fVar 1), (fVar 2), (fVar 3)]))
theorem lam_ok11 (A : Am W P w mg base) : LamOk W P w mg base 8 11 ["ink", "lot", "grey", "number"] fe_lam11 := by
  refine lamOk_of A.fr (A.lam 11) (by decide +kernel) (by kernel_rfl) (fun _ _ _ _ => rfl) fun f c1 A1 outer s H E => ?_
  intro C
  exact (w_call (d_wish_count A) (by decide) (w_cons (w_var 0) (w_cons (w_var 1) (w_cons (w_var 2) (w_cons (w_var 3) w_nil)))))
def fe_lam12 : FE := (fCall F_lots_from (fArgs [(fVar 0), (fVar 1)]))
theorem lam_ok12 (A : Am W P w mg base) : LamOk W P w mg base 8 12 ["ink", "lot"] fe_lam12 := by
  refine lamOk_of A.fr (A.lam 12) (by decide +kernel) (by kernel_rfl) (fun _ _ _ _ => rfl) fun f c1 A1 outer s H E => ?_
  intro C
  exact (w_call (d_lots_from A) (by decide) (w_cons (w_var 0) (w_cons (w_var 1) w_nil)))
def fe_lam13 : FE := (fCall F_wishes (fArgs [(fVar 0), (fVar 1)]))
theorem lam_ok13 (A : Am W P w mg base) : LamOk W P w mg base 8 13 ["ink", "lot"] fe_lam13 := by
  refine lamOk_of A.fr (A.lam 13) (by decide +kernel) (by kernel_rfl) (fun _ _ _ _ => rfl) fun f c1 A1 outer s H E => ?_
  intro C
  exact (w_call (d_wishes A) (by decide) (w_cons (w_var 0) (w_cons (w_var 1) w_nil)))
def fe_lam14 : FE := (fCall F_is_steady (fArgs [(fVar 0), (fVar 1)]))
theorem lam_ok14 (A : Am W P w mg base) : LamOk W P w mg base 8 14 ["ink", "lot"] fe_lam14 := by
  refine lamOk_of A.fr (A.lam 14) (by decide +kernel) (by kernel_rfl) (fun _ _ _ _ => rfl) fun f c1 A1 outer s H E => ?_
  intro C
  exact (w_call (d_is_steady A) (by decide) (w_cons (w_var 0) (w_cons (w_var 1) w_nil)))
def lamTab : Nat → Option (List Str × FE)
  | 0 => some (["ink", "state", "wave"], fe_lam0)
  | 1 => some (["ink", "lot", "wave"], fe_lam1)
  | 2 => some (["ink", "state", "wave"], fe_lam2)
  | 3 => some (["ink", "state"], fe_lam3)
  | 4 => some (["ink", "lot"], fe_lam4)
  | 5 => some (["ink", "grey"], fe_lam5)
  | 6 => some (["ink"], fe_lam6)
  | 7 => some (["ink", "lot", "grey"], fe_lam7)
  | 8 => some (["ink", "lot", "grey"], fe_lam8)
  | 9 => some (["ink", "lot", "grey"], fe_lam9)
  | 10 => some (["ink", "lot", "grey"], fe_lam10)
  | 11 => some (["ink", "lot", "grey", "number"], fe_lam11)
  | 12 => some (["ink", "lot"], fe_lam12)
  | 13 => some (["ink", "lot"], fe_lam13)
  | 14 => some (["ink", "lot"], fe_lam14)
  | _ => none
theorem lamTab_ok (A : Am W P w mg base) : ∀ l p, lamTab l = some p → LamOk W P w mg base 8 l p.1 p.2 := by
  intro l p h
  unfold lamTab at h
  split at h
  · cases h; exact lam_ok0 A
  · cases h; exact lam_ok1 A
  · cases h; exact lam_ok2 A
  · cases h; exact lam_ok3 A
  · cases h; exact lam_ok4 A
  · cases h; exact lam_ok5 A
  · cases h; exact lam_ok6 A
  · cases h; exact lam_ok7 A
  · cases h; exact lam_ok8 A
  · cases h; exact lam_ok9 A
  · cases h; exact lam_ok10 A
  · cases h; exact lam_ok11 A
  · cases h; exact lam_ok12 A
  · cases h; exact lam_ok13 A
  · cases h; exact lam_ok14 A
  · cases h
def g__law_caught : En → Sto → RS := (gSeq (gTry 1 (fun k => decide (k < 7)) (gSeq (gEx (fAct lamTab 0)) gNil) (gSeq (gRet (fVar 1)) gNil)) (gSeq (gRet (fCst .non)) gNil))
def F__law_caught : Fn := runF 2 g__law_caught
theorem sc__law_caught : FnScope ["call", "caught"] ["call"] (defScope (top 68)) := ⟨rfl, rfl, rfl, by decide +kernel, rfl, by decide +kernel, by decide +kernel⟩
theorem d__law_caught (A : Am W P w mg base) (B : Lent W base) : Def W P w mg base 10 "_law_caught" 1 F__law_caught := by
  obtain ⟨f, fd, F, hm⟩ := A.fn__law_caught
  refine w_def A.fr F sc__law_caught hm (F.bindsN fun _ _ _ _ _ _ us hl => match us, hl with | [_], _ => rfl) fun cd A1 outer s H E => ?_
  intro C
  exact (w_seq (w_try 1 A.m_InkError A.exm (fun _ _ _ => (w_seq (w_ex (w_act 0 (by decide) B (lamTab_ok A))) w_nilS)) (fun _ _ => (z_seq (w_ret0 (w_var0 1)) z_nilS))) (w_seq (w_ret w_non) w_nilS))
def g__law_is_raised : En → Sto → RS := (gSeq (gSet 2 (fCall F__law_caught (fArgs [(fVar 0)]))) (gSeq (gIte (fBl (fBin opIs (fVar 1) (fCst .non))) (gSeq (gRet (fBin opIs (fVar 2) (fCst .non))) gNil) gNil) (gSeq (gSet 3 (fDisp [((fCst (.str "ink")), (fIsi ansO (subX 7 2) (fVar 2))), ((fCst (.str "state")), (fIsi ansO (subX 7 5) (fVar 2))), ((fCst (.str "lot")), (fIsi ansO (subX 7 3) (fVar 2)))])) (gSeq (gEx (fMeth "dict" opUpdate (fVar 3) (fArgs [(fDisp [((fCst (.str "wave")), (fIsi ansO (subX 7 6) (fVar 2))), ((fCst (.str "grey")), (fIsi ansO (subX 7 1) (fVar 2))), ((fCst (.str "number")), (fIsi ansO (subX 7 4) (fVar 2)))])]))) (gSeq (gRet (fAndV (fBin opIx (fVar 3) (fBin opIx (fVar 1) (fCst (.int 0)))) (fBin opEq (fOpA opRepr (fArgs [(fVal (fVar 2))])) (fOpA opRepr (fArgs [(fBin opIx (fVar 1) (fCst (.int 1)))]))))) gNil)))))
def F__law_is_raised : Fn := runF 4 g__law_is_raised
theorem sc__law_is_raised : FnScope ["call", "due", "caught", "marks"] ["call", "due"] (defScope (top 69)) := ⟨rfl, rfl, rfl, by decide +kernel, rfl, by decide +kernel, by decide +kernel⟩
theorem d__law_is_raised (A : Am W P w mg base) (B : Lent W base) : Def W P w mg base 11 "_law_is_raised" 2 F__law_is_raised := by
  obtain ⟨f, fd, F, hm⟩ := A.fn__law_is_raised
  refine w_def A.fr F sc__law_is_raised hm (F.bindsN fun _ _ _ _ _ _ us hl => match us, hl with | [_, _], _ => rfl) fun cd A1 outer s H E => ?_
  intro C
  exact (w_seq (w_set 2 (w_call (d__law_caught A B) (by decide) (w_cons (w_var 0) w_nil))) (w_seq (w_ite (w_tcmp (w_var 1) w_non) (w_seq (w_ret (w_cmp (w_var 2) w_non)) w_nilS) w_nilS) (w_seq (w_set 3 (w_disp (w_ppcons w_str (w_isO 7 2 A.k_BadInk A.m_BadInk (w_var 2)) (w_ppcons w_str (w_isO 7 5 A.k_BadState A.m_BadState (w_var 2)) (w_ppcons w_str (w_isO 7 3 A.k_BadLot A.m_BadLot (w_var 2)) w_ppnil))))) (w_seq (w_ex (w_meth mt_updateC (w_var 3) (w_cons (w_disp (w_ppcons w_str (w_isO 7 6 A.k_BadWave A.m_BadWave (w_var 2)) (w_ppcons w_str (w_isO 7 1 A.k_BadGrey A.m_BadGrey (w_var 2)) (w_ppcons w_str (w_isO 7 4 A.k_BadNumber A.m_BadNumber (w_var 2)) w_ppnil)))) w_nil))) (w_seq (w_ret (w_andV (w_ix (w_var 3) (w_ix (w_var 1) w_int)) (w_and1 (w_cmp (w_blt (w_cons (w_value A.xc (w_var 2)) w_nil)) (w_blt (w_cons (w_ix (w_var 1) w_int) w_nil)))))) w_nilS)))))
end Z
set_option Elab.async false
set_option linter.all false
set_option autoImplicit false
set_option maxRecDepth 100000
set_option maxHeartbeats 4000000
namespace Z
open PySem PySem.Spec PyProof.Rows L2

variable {W : Wd} {P : Program} {w : World} {mg : Str → Option Value} {base : Heap}
def menu_ink : FE := (fGC (fBin opAdd (fBin opMul (fOpA opLst (fArgs [(fVar 1)])) (fCst (.int 5))) (fOpA opLst (fArgs [(fCst .non), (fOpA opTup (fArgs [])), (fSl (fVar 1) fNoP (fPart (fCst (.int 3)))), (fOpA opList (fArgs [(fVar 1)])), (fBin opAdd (fSl (fVar 1) fNoP (fPart (fCst (.int 3)))) (fOpA opTup (fArgs [(fOpA opTup (fArgs [(fCst (.int 0)), (fCst (.int 0)), (fCst (.int 2)), (fCst (.int 3)), (fCst (.int 5))]))]))), (fBin opAdd (fOpA opTup (fArgs [(fBin opAdd (fOpA opTup (fArgs [(fCst (.int 8))])) (fSl (fBin opIx (fVar 1) (fCst (.int 0))) (fPart (fCst (.int 1))) fNoP))])) (fSl (fVar 1) (fPart (fCst (.int 1))) fNoP)), (fBin opMul (fOpA opTup (fArgs [(fBin opMul (fOpA opTup (fArgs [(fCst (.int 0))])) (fCst (.int 11)))])) (fCst (.int 4))), (fOpA opTup (fArgs [(fOpA opTup (fArgs [(fCst (.bl true))])), (fOpA opTup (fArgs [(fCst (.int 0))])), (fOpA opTup (fArgs [(fCst (.int 0))])), (fOpA opTup (fArgs [(fCst (.int 0))]))]))]))))
def menu_state : FE := (fGC (fBin opAdd (fBin opMul (fOpA opLst (fArgs [(fCst (.int 2))])) (fCst (.int 4))) (fOpA opLst (fArgs [(fCst .non), (fNeg (fCst (.int 1))), (fCst (.int 5)), (fCst (.bl true)), (fCst (.str "2"))]))))
def menu_lot : FE := (fGC (fBin opAdd (fBin opMul (fOpA opLst (fArgs [(fOpA opTup (fArgs [(fCst (.int 0)), (fCst (.int 4))]))])) (fCst (.int 4))) (fOpA opLst (fArgs [(fCst .non), (fOpA opTup (fArgs [])), (fOpA opTup (fArgs [(fCst (.int 4)), (fCst (.int 0))])), (fOpA opTup (fArgs [(fCst (.int 5))])), (fOpA opLst (fArgs [(fCst (.int 0))])), (fOpA opTup (fArgs [(fCst (.bl true))])), (fOpA opTup (fArgs [(fCst (.int 0)), (fCst (.int 0))]))]))))
def menu_wave : FE := (fGC (fBin opAdd (fBin opMul (fOpA opLst (fArgs [(fCst (.str "dl"))])) (fCst (.int 4))) (fOpA opLst (fArgs [(fCst .non), (fCst (.str "x")), (fBin opMul (fCst (.str "d")) (fCst (.int 5001))), (fOpA opTup (fArgs [(fCst (.str "d"))])), (fCst (.int 5))]))))
def menu_grey : FE := (fGC (fBin opAdd (fBin opMul (fOpA opLst (fArgs [(fCst (.int 2))])) (fCst (.int 4))) (fOpA opLst (fArgs [(fCst .non), (fNeg (fCst (.int 1))), (fCst (.int 8)), (fCst (.bl true)), (fCst (.str "2"))]))))
def menu_number : FE := (fGC (fBin opAdd (fBin opMul (fOpA opLst (fArgs [(fCst (.int 3))])) (fCst (.int 4))) (fOpA opLst (fArgs [(fCst .non), (fNeg (fCst (.int 1))), (fCst (.int 31)), (fCst (.bl true))]))))
def g__law_right : En → Sto → RS := (gSeq (gSet 1 (fOpA opTup (fArgs [(fOpA opTup (fArgs [(fCst (.int 0)), (fCst (.int 0)), (fCst (.int 1)), (fCst (.int 2)), (fCst (.int 2))])), (fOpA opTup (fArgs [(fCst (.int 1)), (fCst (.int 2)), (fCst (.int 3)), (fCst (.int 4)), (fCst (.int 4))])), (fOpA opTup (fArgs [(fCst (.int 0)), (fCst (.int 0)), (fCst (.int 1)), (fCst (.int 2)), (fCst (.int 3))])), (fOpA opTup (fArgs [(fCst (.int 0)), (fCst (.int 0)), (fCst (.int 2)), (fCst (.int 3)), (fCst (.int 3))]))]))) (gSeq (gSet 2 (fCall F__law_of (fArgs [(fVar 0), menu_ink]))) (gSeq (gSet 3 (fCall F__law_of (fArgs [(fVar 0), menu_state]))) (gSeq (gSet 4 (fCall F__law_of (fArgs [(fVar 0), menu_lot]))) (gSeq (gSet 5 (fCall F__law_of (fArgs [(fVar 0), menu_wave]))) (gSeq (gSet 6 (fCall F__law_of (fArgs [(fVar 0), menu_grey]))) (gSeq (gSet 7 (fCall F__law_of (fArgs [(fVar 0), menu_number]))) (gSeq (gPar 9 10 (fArgs [(fIf (fBl (fBin opNe (fOpA opRepr (fArgs [(fVar 2)])) (fOpA opRepr (fArgs [(fVar 1)])))) (fOpA opLst (fArgs [(fOpA opTup (fArgs [(fCst (.str "ink")), (fVar 2)]))])) (fOpA opLst (fArgs []))), (fIf (fBl (fBin opNe (fOpA opRepr (fArgs [(fVar 3)])) (fCst (.str "2")))) (fOpA opLst (fArgs [(fOpA opTup (fArgs [(fCst (.str "state")), (fVar 3)]))])) (fOpA opLst (fArgs [])))])) (gSeq (gPar 11 12 (fArgs [(fIf (fBl (fBin opNe (fOpA opRepr (fArgs [(fVar 4)])) (fOpA opRepr (fArgs [(fOpA opTup (fArgs [(fCst (.int 0)), (fCst (.int 4))]))])))) (fOpA opLst (fArgs [(fOpA opTup (fArgs [(fCst (.str "lot")), (fVar 4)]))])) (fOpA opLst (fArgs []))), (fIf (fBl (fBin opNe (fOpA opRepr (fArgs [(fVar 5)])) (fOpA opRepr (fArgs [(fCst (.str "dl"))])))) (fOpA opLst (fArgs [(fOpA opTup (fArgs [(fCst (.str "wave")), (fVar 5)]))])) (fOpA opLst (fArgs [])))])) (gSeq (gPar 13 14 (fArgs [(fIf (fBl (fBin opNe (fOpA opRepr (fArgs [(fVar 6)])) (fCst (.str "2")))) (fOpA opLst (fArgs [(fOpA opTup (fArgs [(fCst (.str "grey")), (fVar 6)]))])) (fOpA opLst (fArgs []))), (fIf (fBl (fBin opNe (fOpA opRepr (fArgs [(fVar 7)])) (fCst (.str "3")))) (fOpA opLst (fArgs [(fOpA opTup (fArgs [(fCst (.str "number")), (fVar 7)]))])) (fOpA opLst (fArgs [])))])) (gSeq (gSet 8 (fOpA opLst (fArgs [(fOpA opTup (fArgs [(fLam 0), (fBin opAdd (fBin opAdd (fVar 9) (fVar 10)) (fVar 12))]))]))) (gSeq (gEx (fMeth "list" opAppend (fVar 8) (fArgs [(fOpA opTup (fArgs [(fLam 1), (fBin opAdd (fBin opAdd (fVar 9) (fVar 11)) (fVar 12))]))]))) (gSeq (gEx (fMeth "list" opAppend (fVar 8) (fArgs [(fOpA opTup (fArgs [(fLam 2), (fBin opAdd (fBin opAdd (fVar 9) (fVar 10)) (fVar 12))]))]))) (gSeq (gEx (fMeth "list" opAppend (fVar 8) (fArgs [(fOpA opTup (fArgs [(fLam 3), (fBin opAdd (fVar 9) (fVar 10))]))]))) (gSeq (gEx (fMeth "list" opAppend (fVar 8) (fArgs [(fOpA opTup (fArgs [(fLam 4), (fBin opAdd (fVar 9) (fVar 11))]))]))) (gSeq (gEx (fMeth "list" opAppend (fVar 8) (fArgs [(fOpA opTup (fArgs [(fLam 5), (fBin opAdd (fVar 9) (fVar 13))]))]))) (gSeq (gEx (fMeth "list" opAppend (fVar 8) (fArgs [(fOpA opTup (fArgs [(fLam 6), (fVar 9)]))]))) (gSeq (gEx (fMeth "list" opAppend (fVar 8) (fArgs [(fOpA opTup (fArgs [(fLam 7), (fBin opAdd (fBin opAdd (fVar 9) (fVar 11)) (fVar 13))]))]))) (gSeq (gEx (fMeth "list" opAppend (fVar 8) (fArgs [(fOpA opTup (fArgs [(fLam 8), (fBin opAdd (fBin opAdd (fVar 9) (fVar 11)) (fVar 13))]))]))) (gSeq (gEx (fMeth "list" opAppend (fVar 8) (fArgs [(fOpA opTup (fArgs [(fLam 9), (fBin opAdd (fBin opAdd (fVar 9) (fVar 11)) (fVar 13))]))]))) (gSeq (gEx (fMeth "list" opAppend (fVar 8) (fArgs [(fOpA opTup (fArgs [(fLam 10), (fBin opAdd (fBin opAdd (fVar 9) (fVar 11)) (fVar 13))]))]))) (gSeq (gEx (fMeth "list" opAppend (fVar 8) (fArgs [(fOpA opTup (fArgs [(fLam 11), (fBin opAdd (fBin opAdd (fBin opAdd (fVar 9) (fVar 11)) (fVar 13)) (fVar 14))]))]))) (gSeq (gEx (fMeth "list" opAppend (fVar 8) (fArgs [(fOpA opTup (fArgs [(fLam 12), (fBin opAdd (fVar 9) (fVar 11))]))]))) (gSeq (gEx (fMeth "list" opAppend (fVar 8) (fArgs [(fOpA opTup (fArgs [(fLam 13), (fBin opAdd (fVar 9) (fVar 11))]))]))) (gSeq (gEx (fMeth "list" opAppend (fVar 8) (fArgs [(fOpA opTup (fArgs [(fLam 14), (fBin opAdd (fVar 9) (fVar 11))]))]))) (gSeq (gRet (fOpA (opAll fun bs => bs.all id) (fArgs [(fComp [15, 16] (fIter (fVar 8)) (.tp [(.nm 15), (.nm 16)]) fYes (fLend0 2 [("ink", 2), ("state", 3), ("wave", 5), ("lot", 4), ("grey", 6), ("number", 7)] F__law_is_raised (fArgs [(fVar 15), (fBin opIx (fBin opAdd (fVar 16) (fOpA opLst (fArgs [(fCst .non)]))) (fCst (.int 0)))])) 200)]))) gNil))))))))))))))))))))))))))
def F__law_right : Fn := runM 17 g__law_right
theorem sc__law_right : FnScope ["pot", "good", "ink", "state", "lot", "wave", "grey", "number", "looks", "i", "s", "l", "w", "g", "n", "look", "due"] ["pot"] (defScope (top 70)) := ⟨rfl, rfl, rfl, by decide +kernel, rfl, by decide +kernel, by decide +kernel⟩
theorem d__law_right (AA : ∀ cl cvl base, Am { W with cl := cl, cvl := cvl } P w mg base) (MK : ∃ f fd c P1, FunD W.K "_law_right" "_law_right" (defArgs (top 70)) (defBody (top 70)) (defScope (top 70)) [] [] f fd ∧ mg "_law_right" = some (.ref f) ∧ codeAt W.K f = some (.ref c) ∧ MakF W mg base c P1 (("_law_right" ++ ".<locals>." : Str) ++ "<lambda>")) : Def W P w mg base 12 "_law_right" 1 F__law_right := by
  obtain ⟨f, fd, c, P1, F, hm, hcv, M0⟩ := MK
  refine w_defM (AA W.cl W.cvl base).fr F hcv sc__law_right hm (F.bindsN fun _ _ _ _ _ _ us hl => match us, hl with | [_], _ => rfl) fun A1 outer s H E cl hcl => ?_
  intro C
  have A := AA cl W.cvl base
  have M : MakF { W with cl := cl } mg base c P1 (("_law_right" ++ ".<locals>." : Str) ++ "<lambda>") := ⟨M0.tb, M0.tm, M0.tu⟩
  obtain ⟨fR, fdR, FR, hmR⟩ := A.fn__law_is_raised
  exact (w_seq (w_set 1 (w_tup (w_cons (w_tup (w_cons w_int (w_cons w_int (w_cons w_int (w_cons w_int (w_cons w_int w_nil)))))) (w_cons (w_tup (w_cons w_int (w_cons w_int (w_cons w_int (w_cons w_int (w_cons w_int w_nil)))))) (w_cons (w_tup (w_cons w_int (w_cons w_int (w_cons w_int (w_cons w_int (w_cons w_int w_nil)))))) (w_cons (w_tup (w_cons w_int (w_cons w_int (w_cons w_int (w_cons w_int (w_cons w_int w_nil)))))) w_nil)))))) (w_seq (w_set 2 (w_call (d__law_of A) (by decide) (w_cons (w_var 0) (w_cons (w_gc (w_add (w_mul (w_lst (w_cons (w_var 1) w_nil)) w_int) (w_lst (w_cons w_non (w_cons (w_tup w_nil) (w_cons (w_sl (w_var 1) w_noP (w_part w_int)) (w_cons (w_bltT (w_cons (w_var 1) w_nil)) (w_cons (w_add (w_sl (w_var 1) w_noP (w_part w_int)) (w_tup (w_cons (w_tup (w_cons w_int (w_cons w_int (w_cons w_int (w_cons w_int (w_cons w_int w_nil)))))) w_nil))) (w_cons (w_add (w_tup (w_cons (w_add (w_tup (w_cons w_int w_nil)) (w_sl (w_ix (w_var 1) w_int) (w_part w_int) w_noP)) w_nil)) (w_sl (w_var 1) (w_part w_int) w_noP)) (w_cons (w_mul (w_tup (w_cons (w_mul (w_tup (w_cons w_int w_nil)) w_int) w_nil)) w_int) (w_cons (w_tup (w_cons (w_tup (w_cons w_bl w_nil)) (w_cons (w_tup (w_cons w_int w_nil)) (w_cons (w_tup (w_cons w_int w_nil)) (w_cons (w_tup (w_cons w_int w_nil)) w_nil))))) w_nil))))))))))) w_nil)))) (w_seq (w_set 3 (w_call (d__law_of A) (by decide) (w_cons (w_var 0) (w_cons (w_gc (w_add (w_mul (w_lst (w_cons w_int w_nil)) w_int) (w_lst (w_cons w_non (w_cons (w_neg w_int) (w_cons w_int (w_cons w_bl (w_cons w_str w_nil)))))))) w_nil)))) (w_seq (w_set 4 (w_call (d__law_of A) (by decide) (w_cons (w_var 0) (w_cons (w_gc (w_add (w_mul (w_lst (w_cons (w_tup (w_cons w_int (w_cons w_int w_nil))) w_nil)) w_int) (w_lst (w_cons w_non (w_cons (w_tup w_nil) (w_cons (w_tup (w_cons w_int (w_cons w_int w_nil))) (w_cons (w_tup (w_cons w_int w_nil)) (w_cons (w_lst (w_cons w_int w_nil)) (w_cons (w_tup (w_cons w_bl w_nil)) (w_cons (w_tup (w_cons w_int (w_cons w_int w_nil))) w_nil)))))))))) w_nil)))) (w_seq (w_set 5 (w_call (d__law_of A) (by decide) (w_cons (w_var 0) (w_cons (w_gc (w_add (w_mul (w_lst (w_cons w_str w_nil)) w_int) (w_lst (w_cons w_non (w_cons w_str (w_cons (w_mul w_str w_int) (w_cons (w_tup (w_cons w_str w_nil)) (w_cons w_int w_nil)))))))) w_nil)))) (w_seq (w_set 6 (w_call (d__law_of A) (by decide) (w_cons (w_var 0) (w_cons (w_gc (w_add (w_mul (w_lst (w_cons w_int w_nil)) w_int) (w_lst (w_cons w_non (w_cons (w_neg w_int) (w_cons w_int (w_cons w_bl (w_cons w_str w_nil)))))))) w_nil)))) (w_seq (w_set 7 (w_call (d__law_of A) (by decide) (w_cons (w_var 0) (w_cons (w_gc (w_add (w_mul (w_lst (w_cons w_int w_nil)) w_int) (w_lst (w_cons w_non (w_cons (w_neg w_int) (w_cons w_int (w_cons w_bl w_nil))))))) w_nil)))) (w_seq (w_par 9 10 (w_cons (w_if (w_tcmp (w_blt (w_cons (w_var 2) w_nil)) (w_blt (w_cons (w_var 1) w_nil))) (w_lst (w_cons (w_tup (w_cons w_str (w_cons (w_var 2) w_nil))) w_nil)) (w_lst w_nil)) (w_cons (w_if (w_tcmp (w_blt (w_cons (w_var 3) w_nil)) w_str) (w_lst (w_cons (w_tup (w_cons w_str (w_cons (w_var 3) w_nil))) w_nil)) (w_lst w_nil)) w_nil))) (w_seq (w_par 11 12 (w_cons (w_if (w_tcmp (w_blt (w_cons (w_var 4) w_nil)) (w_blt (w_cons (w_tup (w_cons w_int (w_cons w_int w_nil))) w_nil))) (w_lst (w_cons (w_tup (w_cons w_str (w_cons (w_var 4) w_nil))) w_nil)) (w_lst w_nil)) (w_cons (w_if (w_tcmp (w_blt (w_cons (w_var 5) w_nil)) (w_blt (w_cons w_str w_nil))) (w_lst (w_cons (w_tup (w_cons w_str (w_cons (w_var 5) w_nil))) w_nil)) (w_lst w_nil)) w_nil))) (w_seq (w_par 13 14 (w_cons (w_if (w_tcmp (w_blt (w_cons (w_var 6) w_nil)) w_str) (w_lst (w_cons (w_tup (w_cons w_str (w_cons (w_var 6) w_nil))) w_nil)) (w_lst w_nil)) (w_cons (w_if (w_tcmp (w_blt (w_cons (w_var 7) w_nil)) w_str) (w_lst (w_cons (w_tup (w_cons w_str (w_cons (w_var 7) w_nil))) w_nil)) (w_lst w_nil)) w_nil))) (w_seq (w_set 8 (w_lst (w_cons (w_tup (w_cons (w_lam 0 M hcl (A.lam 0)) (w_cons (w_add (w_add (w_var 9) (w_var 10)) (w_var 12)) w_nil))) w_nil))) (w_seq (w_ex (w_meth mt_appendC (w_var 8) (w_cons (w_tup (w_cons (w_lam 1 M hcl (A.lam 1)) (w_cons (w_add (w_add (w_var 9) (w_var 11)) (w_var 12)) w_nil))) w_nil))) (w_seq (w_ex (w_meth mt_appendC (w_var 8) (w_cons (w_tup (w_cons (w_lam 2 M hcl (A.lam 2)) (w_cons (w_add (w_add (w_var 9) (w_var 10)) (w_var 12)) w_nil))) w_nil))) (w_seq (w_ex (w_meth mt_appendC (w_var 8) (w_cons (w_tup (w_cons (w_lam 3 M hcl (A.lam 3)) (w_cons (w_add (w_var 9) (w_var 10)) w_nil))) w_nil))) (w_seq (w_ex (w_meth mt_appendC (w_var 8) (w_cons (w_tup (w_cons (w_lam 4 M hcl (A.lam 4)) (w_cons (w_add (w_var 9) (w_var 11)) w_nil))) w_nil))) (w_seq (w_ex (w_meth mt_appendC (w_var 8) (w_cons (w_tup (w_cons (w_lam 5 M hcl (A.lam 5)) (w_cons (w_add (w_var 9) (w_var 13)) w_nil))) w_nil))) (w_seq (w_ex (w_meth mt_appendC (w_var 8) (w_cons (w_tup (w_cons (w_lam 6 M hcl (A.lam 6)) (w_cons (w_var 9) w_nil))) w_nil))) (w_seq (w_ex (w_meth mt_appendC (w_var 8) (w_cons (w_tup (w_cons (w_lam 7 M hcl (A.lam 7)) (w_cons (w_add (w_add (w_var 9) (w_var 11)) (w_var 13)) w_nil))) w_nil))) (w_seq (w_ex (w_meth mt_appendC (w_var 8) (w_cons (w_tup (w_cons (w_lam 8 M hcl (A.lam 8)) (w_cons (w_add (w_add (w_var 9) (w_var 11)) (w_var 13)) w_nil))) w_nil))) (w_seq (w_ex (w_meth mt_appendC (w_var 8) (w_cons (w_tup (w_cons (w_lam 9 M hcl (A.lam 9)) (w_cons (w_add (w_add (w_var 9) (w_var 11)) (w_var 13)) w_nil))) w_nil))) (w_seq (w_ex (w_meth mt_appendC (w_var 8) (w_cons (w_tup (w_cons (w_lam 10 M hcl (A.lam 10)) (w_cons (w_add (w_add (w_var 9) (w_var 11)) (w_var 13)) w_nil))) w_nil))) (w_seq (w_ex (w_meth mt_appendC (w_var 8) (w_cons (w_tup (w_cons (w_lam 11 M hcl (A.lam 11)) (w_cons (w_add (w_add (w_add (w_var 9) (w_var 11)) (w_var 13)) (w_var 14)) w_nil))) w_nil))) (w_seq (w_ex (w_meth mt_appendC (w_var 8) (w_cons (w_tup (w_cons (w_lam 12 M hcl (A.lam 12)) (w_cons (w_add (w_var 9) (w_var 11)) w_nil))) w_nil))) (w_seq (w_ex (w_meth mt_appendC (w_var 8) (w_cons (w_tup (w_cons (w_lam 13 M hcl (A.lam 13)) (w_cons (w_add (w_var 9) (w_var 11)) w_nil))) w_nil))) (w_seq (w_ex (w_meth mt_appendC (w_var 8) (w_cons (w_tup (w_cons (w_lam 14 M hcl (A.lam 14)) (w_cons (w_add (w_var 9) (w_var 11)) w_nil))) w_nil))) (w_seq (w_ret (w_blt (w_cons (w_lcomp [("look", 15), ("due", 16)] [("ink", 2), ("state", 3), ("wave", 5), ("lot", 4), ("grey", 6), ("number", 7)] 200 hcl (w_iter (w_var 8)) (fun _ _ _ _ _ => (w_tgtup (w_tgcons (w_nm 15) (w_tgcons (w_nm 16) w_tgnil)))) (fun _ _ _ _ _ => w_yes) (fun vs _ _ _ _ _ L => (w_lent0 (by decide) hmR FR.kp L (fun base1 B => d__law_is_raised (AA cl (cvOf vs) base1) B) (w_cons (w_var 15) (w_cons (w_ix (w_add (w_var 16) (w_lst (w_cons w_non w_nil))) w_int) w_nil))))) w_nil))) w_nilS))))))))))))))))))))))))))
def g_law : En → Sto → RS := (gSeq (gFor (fIter (fGC (fCall F__law_cells (fArgs [(fVar 0), (fCst (.int 3))])))) (.nm 1) (gSeq (gSet 2 (fCall F__law_pot (fArgs [(fVar 0), (fVar 1)]))) (gSeq (gIte (fNotT (fTru (fGC (fOpA (opAll fun bs => bs.all id) (fArgs [(fComp [3] (fRng1 (fCst (.int 6))) (.nm 3) fYes (fCallP F__law_right (fArgs [(fVar 2)])) 200)]))))) (gSeq (gRet (fCst (.bl false))) gNil) gNil) gNil)) 200) (gSeq (gRet (fCst (.bl true))) gNil))
def F_law : Fn := runF 4 g_law
theorem sc_law : FnScope ["script", "place", "pot", "lap"] ["script"] (defScope (top 71)) := ⟨rfl, rfl, rfl, by decide +kernel, rfl, by decide +kernel, by decide +kernel⟩
theorem d_law (AA : ∀ cl cvl base, Am { W with cl := cl, cvl := cvl } P w mg base) (MK : ∃ f fd c P1, FunD W.K "_law_right" "_law_right" (defArgs (top 70)) (defBody (top 70)) (defScope (top 70)) [] [] f fd ∧ mg "_law_right" = some (.ref f) ∧ codeAt W.K f = some (.ref c) ∧ MakF W mg base c P1 (("_law_right" ++ ".<locals>." : Str) ++ "<lambda>")) : Def W P w mg base 13 "law" 1 F_law := by
  have A := AA W.cl W.cvl base
  obtain ⟨f, fd, F, hm⟩ := A.fn_law
  refine w_def A.fr F sc_law hm (F.bindsN fun _ _ _ _ _ _ us hl => match us, hl with | [_], _ => rfl) fun cd A1 outer s H E => ?_
  intro C
  exact (w_seq (w_for 200 (w_iter (w_gc (w_call (d__law_cells A) (by decide) (w_cons (w_var 0) (w_cons w_int w_nil))))) (w_nm 1) (w_seq (w_set 2 (w_call (d__law_pot A) (by decide) (w_cons (w_var 0) (w_cons (w_var 1) w_nil)))) (w_seq (w_ite (w_tnot (w_test (w_gc (w_blt (w_cons (w_comp [("lap", 3)] 200 (w_range1 w_int) (fun _ _ _ _ _ => (w_nm 3)) (fun _ _ _ _ _ => w_yes) (fun _ _ _ _ _ => (w_callP (d__law_right AA MK) (by decide) (w_cons (w_var 2) w_nil)))) w_nil))))) (w_seq (w_ret w_bl) w_nilS) w_nilS) w_nilS))) (w_seq (w_ret w_bl) w_nilS))
end Z
set_option Elab.async false
set_option linter.all false
set_option autoImplicit false
set_option maxRecDepth 100000
set_option maxHeartbeats 0
namespace Z
open PySem PySem.Spec PyProof.Rows L2

def iT (l : List Int) : D := .tup (l.map .int)
def r0 : D := iT [0, 0, 1, 2, 2]
def r1 : D := iT [1, 2, 3, 4, 4]
def r2 : D := iT [0, 0, 1, 2, 3]
def r3 : D := iT [0, 0, 2, 3, 3]
def goodD : D := .tup [r0, r1, r2, r3]
def inkB : List D := [.non, .tup [], .tup [r0, r1, r2], .sq [r0, r1, r2, r3], .tup [r0, r1, r2, iT [0, 0, 2, 3, 5]], .tup [iT [8, 0, 1, 2, 2], r1, r2, r3], .tup (List.replicate 4 (iT (List.replicate 11 0))), .tup [.tup [.bl true], iT [0], iT [0], iT [0]]]
def stateB : List D := [.non, .int (-1), .int 5, .bl true, .str "2"]
def lotB : List D := [.non, .tup [], iT [4, 0], iT [5], .sq [.int 0], .tup [.bl true], iT [0, 0]]
def big : Str := repS 5001 "d"
def waveB : List D := [.non, .str "x", .tup [.str "d"], .int 5]
def greyB : List D := [.non, .int (-1), .int 8, .bl true, .str "2"]
def numberB : List D := [.non, .int (-1), .int 31, .bl true]
def cel (i s w l g n : D) : List (Str × D) := [("ink", i), ("state", s), ("wave", w), ("lot", l), ("grey", g), ("number", n)]
theorem k0_i (s w l g n : D) : (inkB.all fun x => isT (F__law_is_raised [.lam 0, .tup [.str "ink", x]] ⟨0, [], some (cel x s w l g n)⟩)) = true := by kernel_rfl
theorem k0_s (w l g n : D) : (stateB.all fun x => isT (F__law_is_raised [.lam 0, .tup [.str "state", x]] ⟨0, [], some (cel goodD x w l g n)⟩)) = true := by kernel_rfl
theorem k0_w (l g n : D) : (waveB.all fun x => isT (F__law_is_raised [.lam 0, .tup [.str "wave", x]] ⟨0, [], some (cel goodD (.int 2) x l g n)⟩)) = true := by kernel_rfl
theorem k0_ok (l g n : D) : isT (F__law_is_raised [.lam 0, .non] ⟨0, [], some (cel goodD (.int 2) (.str "dl") l g n)⟩) = true := by kernel_rfl
theorem k1_i (s w l g n : D) : (inkB.all fun x => isT (F__law_is_raised [.lam 1, .tup [.str "ink", x]] ⟨0, [], some (cel x s w l g n)⟩)) = true := by kernel_rfl
theorem k1_l (s w g n : D) : (lotB.all fun x => isT (F__law_is_raised [.lam 1, .tup [.str "lot", x]] ⟨0, [], some (cel goodD s w x g n)⟩)) = true := by kernel_rfl
theorem k1_w (s g n : D) : (waveB.all fun x => isT (F__law_is_raised [.lam 1, .tup [.str "wave", x]] ⟨0, [], some (cel goodD s x (iT [0, 4]) g n)⟩)) = true := by kernel_rfl
theorem k1_ok (s g n : D) : isT (F__law_is_raised [.lam 1, .non] ⟨0, [], some (cel goodD s (.str "dl") (iT [0, 4]) g n)⟩) = true := by kernel_rfl
theorem k2_i (s w l g n : D) : (inkB.all fun x => isT (F__law_is_raised [.lam 2, .tup [.str "ink", x]] ⟨0, [], some (cel x s w l g n)⟩)) = true := by kernel_rfl
theorem k2_s (w l g n : D) : (stateB.all fun x => isT (F__law_is_raised [.lam 2, .tup [.str "state", x]] ⟨0, [], some (cel goodD x w l g n)⟩)) = true := by kernel_rfl
theorem k2_w (l g n : D) : (waveB.all fun x => isT (F__law_is_raised [.lam 2, .tup [.str "wave", x]] ⟨0, [], some (cel goodD (.int 2) x l g n)⟩)) = true := by kernel_rfl
theorem k2_ok (l g n : D) : isT (F__law_is_raised [.lam 2, .non] ⟨0, [], some (cel goodD (.int 2) (.str "dl") l g n)⟩) = true := by kernel_rfl
theorem k3_i (s w l g n : D) : (inkB.all fun x => isT (F__law_is_raised [.lam 3, .tup [.str "ink", x]] ⟨0, [], some (cel x s w l g n)⟩)) = true := by kernel_rfl
theorem k3_s (w l g n : D) : (stateB.all fun x => isT (F__law_is_raised [.lam 3, .tup [.str "state", x]] ⟨0, [], some (cel goodD x w l g n)⟩)) = true := by kernel_rfl
theorem k3_ok (w l g n : D) : isT (F__law_is_raised [.lam 3, .non] ⟨0, [], some (cel goodD (.int 2) w l g n)⟩) = true := by kernel_rfl
theorem k4_i (s w l g n : D) : (inkB.all fun x => isT (F__law_is_raised [.lam 4, .tup [.str "ink", x]] ⟨0, [], some (cel x s w l g n)⟩)) = true := by kernel_rfl
theorem k4_l (s w g n : D) : (lotB.all fun x => isT (F__law_is_raised [.lam 4, .tup [.str "lot", x]] ⟨0, [], some (cel goodD s w x g n)⟩)) = true := by kernel_rfl
theorem k4_ok (s w g n : D) : isT (F__law_is_raised [.lam 4, .non] ⟨0, [], some (cel goodD s w (iT [0, 4]) g n)⟩) = true := by kernel_rfl
theorem k5_i (s w l g n : D) : (inkB.all fun x => isT (F__law_is_raised [.lam 5, .tup [.str "ink", x]] ⟨0, [], some (cel x s w l g n)⟩)) = true := by kernel_rfl
theorem k5_g (s w l n : D) : (greyB.all fun x => isT (F__law_is_raised [.lam 5, .tup [.str "grey", x]] ⟨0, [], some (cel goodD s w l x n)⟩)) = true := by kernel_rfl
theorem k5_ok (s w l n : D) : isT (F__law_is_raised [.lam 5, .non] ⟨0, [], some (cel goodD s w l (.int 2) n)⟩) = true := by kernel_rfl
theorem k6_i (s w l g n : D) : (inkB.all fun x => isT (F__law_is_raised [.lam 6, .tup [.str "ink", x]] ⟨0, [], some (cel x s w l g n)⟩)) = true := by kernel_rfl
theorem k6_ok (s w l g n : D) : isT (F__law_is_raised [.lam 6, .non] ⟨0, [], some (cel goodD s w l g n)⟩) = true := by kernel_rfl
theorem k7_i (s w l g n : D) : (inkB.all fun x => isT (F__law_is_raised [.lam 7, .tup [.str "ink", x]] ⟨0, [], some (cel x s w l g n)⟩)) = true := by kernel_rfl
theorem k7_l (s w g n : D) : (lotB.all fun x => isT (F__law_is_raised [.lam 7, .tup [.str "lot", x]] ⟨0, [], some (cel goodD s w x g n)⟩)) = true := by kernel_rfl
theorem k7_g (s w n : D) : (greyB.all fun x => isT (F__law_is_raised [.lam 7, .tup [.str "grey", x]] ⟨0, [], some (cel goodD s w (iT [0, 4]) x n)⟩)) = true := by kernel_rfl
theorem k7_ok (s w n : D) : isT (F__law_is_raised [.lam 7, .non] ⟨0, [], some (cel goodD s w (iT [0, 4]) (.int 2) n)⟩) = true := by kernel_rfl
theorem k8_i (s w l g n : D) : (inkB.all fun x => isT (F__law_is_raised [.lam 8, .tup [.str "ink", x]] ⟨0, [], some (cel x s w l g n)⟩)) = true := by kernel_rfl
theorem k8_l (s w g n : D) : (lotB.all fun x => isT (F__law_is_raised [.lam 8, .tup [.str "lot", x]] ⟨0, [], some (cel goodD s w x g n)⟩)) = true := by kernel_rfl
theorem k8_g (s w n : D) : (greyB.all fun x => isT (F__law_is_raised [.lam 8, .tup [.str "grey", x]] ⟨0, [], some (cel goodD s w (iT [0, 4]) x n)⟩)) = true := by kernel_rfl
theorem k8_ok (s w n : D) : isT (F__law_is_raised [.lam 8, .non] ⟨0, [], some (cel goodD s w (iT [0, 4]) (.int 2) n)⟩) = true := by kernel_rfl
theorem k9_i (s w l g n : D) : (inkB.all fun x => isT (F__law_is_raised [.lam 9, .tup [.str "ink", x]] ⟨0, [], some (cel x s w l g n)⟩)) = true := by kernel_rfl
theorem k9_l (s w g n : D) : (lotB.all fun x => isT (F__law_is_raised [.lam 9, .tup [.str "lot", x]] ⟨0, [], some (cel goodD s w x g n)⟩)) = true := by kernel_rfl
theorem k9_g (s w n : D) : (greyB.all fun x => isT (F__law_is_raised [.lam 9, .tup [.str "grey", x]] ⟨0, [], some (cel goodD s w (iT [0, 4]) x n)⟩)) = true := by kernel_rfl
theorem k9_ok (s w n : D) : isT (F__law_is_raised [.lam 9, .non] ⟨0, [], some (cel goodD s w (iT [0, 4]) (.int 2) n)⟩) = true := by kernel_rfl
theorem k10_i (s w l g n : D) : (inkB.all fun x => isT (F__law_is_raised [.lam 10, .tup [.str "ink", x]] ⟨0, [], some (cel x s w l g n)⟩)) = true := by kernel_rfl
theorem k10_l (s w g n : D) : (lotB.all fun x => isT (F__law_is_raised [.lam 10, .tup [.str "lot", x]] ⟨0, [], some (cel goodD s w x g n)⟩)) = true := by kernel_rfl
theorem k10_g (s w n : D) : (greyB.all fun x => isT (F__law_is_raised [.lam 10, .tup [.str "grey", x]] ⟨0, [], some (cel goodD s w (iT [0, 4]) x n)⟩)) = true := by kernel_rfl
theorem k10_ok (s w n : D) : isT (F__law_is_raised [.lam 10, .non] ⟨0, [], some (cel goodD s w (iT [0, 4]) (.int 2) n)⟩) = true := by kernel_rfl
theorem k11_i (s w l g n : D) : (inkB.all fun x => isT (F__law_is_raised [.lam 11, .tup [.str "ink", x]] ⟨0, [], some (cel x s w l g n)⟩)) = true := by kernel_rfl
theorem k11_l (s w g n : D) : (lotB.all fun x => isT (F__law_is_raised [.lam 11, .tup [.str "lot", x]] ⟨0, [], some (cel goodD s w x g n)⟩)) = true := by kernel_rfl
theorem k11_g (s w n : D) : (greyB.all fun x => isT (F__law_is_raised [.lam 11, .tup [.str "grey", x]] ⟨0, [], some (cel goodD s w (iT [0, 4]) x n)⟩)) = true := by kernel_rfl
theorem k11_n (s w : D) : (numberB.all fun x => isT (F__law_is_raised [.lam 11, .tup [.str "number", x]] ⟨0, [], some (cel goodD s w (iT [0, 4]) (.int 2) x)⟩)) = true := by kernel_rfl
theorem k11_ok (s w : D) : isT (F__law_is_raised [.lam 11, .non] ⟨0, [], some (cel goodD s w (iT [0, 4]) (.int 2) (.int 3))⟩) = true := by kernel_rfl
theorem k12_i (s w l g n : D) : (inkB.all fun x => isT (F__law_is_raised [.lam 12, .tup [.str "ink", x]] ⟨0, [], some (cel x s w l g n)⟩)) = true := by kernel_rfl
theorem k12_l (s w g n : D) : (lotB.all fun x => isT (F__law_is_raised [.lam 12, .tup [.str "lot", x]] ⟨0, [], some (cel goodD s w x g n)⟩)) = true := by kernel_rfl
theorem k12_ok (s w g n : D) : isT (F__law_is_raised [.lam 12, .non] ⟨0, [], some (cel goodD s w (iT [0, 4]) g n)⟩) = true := by kernel_rfl
theorem k13_i (s w l g n : D) : (inkB.all fun x => isT (F__law_is_raised [.lam 13, .tup [.str "ink", x]] ⟨0, [], some (cel x s w l g n)⟩)) = true := by kernel_rfl
theorem k13_l (s w g n : D) : (lotB.all fun x => isT (F__law_is_raised [.lam 13, .tup [.str "lot", x]] ⟨0, [], some (cel goodD s w x g n)⟩)) = true := by kernel_rfl
theorem k13_ok (s w g n : D) : isT (F__law_is_raised [.lam 13, .non] ⟨0, [], some (cel goodD s w (iT [0, 4]) g n)⟩) = true := by kernel_rfl
theorem k14_i (s w l g n : D) : (inkB.all fun x => isT (F__law_is_raised [.lam 14, .tup [.str "ink", x]] ⟨0, [], some (cel x s w l g n)⟩)) = true := by kernel_rfl
theorem k14_l (s w g n : D) : (lotB.all fun x => isT (F__law_is_raised [.lam 14, .tup [.str "lot", x]] ⟨0, [], some (cel goodD s w x g n)⟩)) = true := by kernel_rfl
theorem k14_ok (s w g n : D) : isT (F__law_is_raised [.lam 14, .non] ⟨0, [], some (cel goodD s w (iT [0, 4]) g n)⟩) = true := by kernel_rfl
theorem andV_t {f g : FE} {env : En} {S S1 : Sto} (h : f env S = .ok (.bl true) S1) : fAndV f g env S = g env S1 := by
  unfold fAndV
  rw [h]
  rfl
theorem andV_f {f g : FE} {env : En} {S S1 : Sto} (h : f env S = .ok (.bl false) S1) : fAndV f g env S = .ok (.bl false) S1 := by
  unfold fAndV
  rw [h]
  rfl
def stOf : R D → Sto
  | .ok _ S => S
  | .exc _ _ S => S
  | .no => ⟨0, [], none⟩
def nxOf : RS → En × Sto
  | .ok (.nx env) S => (env, S)
  | _ => ([], ⟨0, [], none⟩)
def isNx : RS → Bool
  | .ok (.nx _) _ => true
  | _ => false
theorem isT_seq {g1 g2 : En → Sto → RS} {env : En} {S : Sto} (h : isNx (g1 env S) = true) (h2 : isT (g2 (nxOf (g1 env S)).1 (nxOf (g1 env S)).2).fin = true) : isT (gSeq g1 g2 env S).fin = true := by
  unfold gSeq
  cases q : g1 env S with
  | ok f S1 =>
    cases f with
    | nx env1 => rw [q] at h2; exact h2
    | rt d => rw [q] at h; cases h
    | bk d => rw [q] at h; cases h
    | ct d => rw [q] at h; cases h
  | exc c v e S1 => rw [q] at h; cases h
  | no => rw [q] at h; cases h
theorem isT_ret {g2 : En → Sto → RS} {f : FE} {env : En} {S S1 : Sto} (h : f env S = .ok (.bl true) S1) : isT (gSeq (gRet f) g2 env S).fin = true := by
  rw [seq_rt (ret_ok h)]
  rfl
theorem isWave_long {y : Str} (hy : y.length = 5001) (S : Sto) : F_is_wave [.str y] S = .ok (.bl false) S := by
  show (g_is_wave [some (.str y), none] S).fin = _
  unfold g_is_wave
  have e1 : opLen [.str y] S = some (.int 5001, S) := by
    show (if y.length ≤ 1000000 then some (D.int (y.length : Nat), S) else none) = _
    rw [hy]
    rfl
  have e2 : fBin opLe (fOpA opLen (fArgs [(fVar 0)])) (fCst (.int 5000)) [some (.str y), none] S = .ok (.bl false) S := bin_ok (opA_ok (ds := [.str y]) rfl e1) rfl rfl
  rw [seq_rt (ret_ok ((andV_t rfl).trans (andV_f e2)))]
  rfl
theorem checkWave_long {y : Str} (hy : y.length = 5001) (S : Sto) : F_check_wave [.str y] S = .exc 6 (.str y) S := by
  show (g_check_wave [some (.str y)] S).fin = _
  unfold g_check_wave
  have e1 : fNotT (fTru (fCall F_is_wave (fArgs [(fVar 0)]))) [some (.str y)] S = .ok true S := by
    unfold fNotT fTru
    rw [call_ok (ds := [.str y]) (S1 := S) rfl, isWave_long hy]
    rfl
  rw [seq_exc (c := 6) (v := .str y) (env1 := [some (.str y)]) (S1 := S) (by rw [ite_t e1]; rfl)]
  rfl
theorem raised_tail {y ry : Str} (hr : rp (.str y) = some ry) {env : En} {S : Sto} {m : FE} (h2 : env[2]? = some (some (.exc 6 (.str y)))) (h1 : fBin opIx (fVar 1) (fCst (.int 1)) env S = .ok (.str y) S) (hm : m env S = .ok (.bl true) S) :
    fAndV m (fBin opEq (fOpA opRepr (fArgs [(fVal (fVar 2))])) (fOpA opRepr (fArgs [(fBin opIx (fVar 1) (fCst (.int 1)))]))) env S = .ok (.bl true) S := by
  rw [andV_t hm]
  have e1 : fVal (fVar 2) env S = .ok (.str y) S := by
    unfold fVal
    rw [var_ok h2]
    rfl
  refine bin_ok (opA_ok (args_cons e1 rfl) (repD_rp hr)) (opA_ok (args_cons h1 rfl) (repD_rp hr)) ?_
  show some (D.bl (decide (ry = ry)), S) = _
  rw [decide_eq_true rfl]
theorem k0_big {y ry : Str} (hy : y.length = 5001) (hr : rp (.str y) = some ry) (l g n : D) : isT (F__law_is_raised [.lam 0, .tup [.str "wave", .str y]] ⟨0, [], some (cel goodD (.int 2) (.str y) l g n)⟩) = true := by
  obtain ⟨S1, hS⟩ : ∃ S1, S1 = stOf (fCall F_check_state (fArgs [fVar 0, fVar 1]) (startE 3 [goodD, (.int 2), .str y]) ⟨0, [], some (cel goodD (.int 2) (.str y) l g n)⟩) := ⟨_, rfl⟩
  have hk : fCall F_check_state (fArgs [fVar 0, fVar 1]) (startE 3 [goodD, (.int 2), .str y]) ⟨0, [], some (cel goodD (.int 2) (.str y) l g n)⟩ = .ok .non S1 := by
    rw [hS]
    kernel_rfl
  have hs : F_state_behind [goodD, (.int 2), .str y] ⟨0, [], some (cel goodD (.int 2) (.str y) l g n)⟩ = .exc 6 (.str y) S1 := by
    show (g_state_behind (startE 3 [goodD, (.int 2), .str y]) ⟨0, [], some (cel goodD (.int 2) (.str y) l g n)⟩).fin = _
    unfold g_state_behind
    rw [seq_nx (ex_ok hk)]
    rw [seq_exc (ex_exc ((call_ok (ds := [.str y]) (S1 := S1) rfl).trans (checkWave_long hy S1)))]
    rfl
  have hc : F__law_caught [.lam 0] ⟨0, [], some (cel goodD (.int 2) (.str y) l g n)⟩ = .ok (.exc 6 (.str y)) S1 := by
    show (g__law_caught [some (.lam 0), none] ⟨0, [], some (cel goodD (.int 2) (.str y) l g n)⟩).fin = _
    unfold g__law_caught
    have e2 : gSeq (gEx (fAct lamTab 0)) gNil [some (.lam 0), none] ⟨0, [], some (cel goodD (.int 2) (.str y) l g n)⟩ = .exc 6 (.str y) [some (.lam 0), none] S1 := seq_exc (ex_exc (show fCall F_state_behind (fArgs [(fVar 0), (fVar 1), (fVar 2)]) [some goodD, some (.int 2), some (.str y)] ⟨0, [], some (cel goodD (.int 2) (.str y) l g n)⟩ = _ from (call_ok (ds := [goodD, (.int 2), .str y]) rfl).trans hs))
    have e3 : gTry 1 (fun k => decide (k < 7)) (gSeq (gEx (fAct lamTab 0)) gNil) (gSeq (gRet (fVar 1)) gNil) [some (.lam 0), none] ⟨0, [], some (cel goodD (.int 2) (.str y) l g n)⟩ = .ok (.rt (.exc 6 (.str y))) S1 := by
      unfold gTry
      rw [e2]
      rfl
    rw [seq_rt e3]
    rfl
  have hf : F__law_is_raised [.lam 0, .tup [.str "wave", .str y]] ⟨0, [], some (cel goodD (.int 2) (.str y) l g n)⟩ = (g__law_is_raised [some (.lam 0), some (.tup [.str "wave", .str y]), none, none] ⟨0, [], some (cel goodD (.int 2) (.str y) l g n)⟩).fin := rfl
  rw [hf]
  unfold g__law_is_raised
  rw [seq_nx (set_ok ((call_ok (ds := [.lam 0]) rfl).trans hc))]
  clear hf hc hs hk
  subst hS
  refine isT_seq (by kernel_rfl) (isT_seq (by kernel_rfl) (isT_seq (by kernel_rfl) (isT_ret (raised_tail hr (by kernel_rfl) (by kernel_rfl) (by kernel_rfl)))))
theorem k1_big {y ry : Str} (hy : y.length = 5001) (hr : rp (.str y) = some ry) (s g n : D) : isT (F__law_is_raised [.lam 1, .tup [.str "wave", .str y]] ⟨0, [], some (cel goodD s (.str y) (iT [0, 4]) g n)⟩) = true := by
  obtain ⟨S1, hS⟩ : ∃ S1, S1 = stOf (fCall F_check_lot (fArgs [fVar 0, fVar 1]) (startE 3 [goodD, (iT [0, 4]), .str y]) ⟨0, [], some (cel goodD s (.str y) (iT [0, 4]) g n)⟩) := ⟨_, rfl⟩
  have hk : fCall F_check_lot (fArgs [fVar 0, fVar 1]) (startE 3 [goodD, (iT [0, 4]), .str y]) ⟨0, [], some (cel goodD s (.str y) (iT [0, 4]) g n)⟩ = .ok .non S1 := by
    rw [hS]
    kernel_rfl
  have hs : F_lot_behind [goodD, (iT [0, 4]), .str y] ⟨0, [], some (cel goodD s (.str y) (iT [0, 4]) g n)⟩ = .exc 6 (.str y) S1 := by
    show (g_lot_behind (startE 3 [goodD, (iT [0, 4]), .str y]) ⟨0, [], some (cel goodD s (.str y) (iT [0, 4]) g n)⟩).fin = _
    unfold g_lot_behind
    rw [seq_nx (ex_ok hk)]
    rw [seq_exc (ex_exc ((call_ok (ds := [.str y]) (S1 := S1) rfl).trans (checkWave_long hy S1)))]
    rfl
  have hc : F__law_caught [.lam 1] ⟨0, [], some (cel goodD s (.str y) (iT [0, 4]) g n)⟩ = .ok (.exc 6 (.str y)) S1 := by
    show (g__law_caught [some (.lam 1), none] ⟨0, [], some (cel goodD s (.str y) (iT [0, 4]) g n)⟩).fin = _
    unfold g__law_caught
    have e2 : gSeq (gEx (fAct lamTab 0)) gNil [some (.lam 1), none] ⟨0, [], some (cel goodD s (.str y) (iT [0, 4]) g n)⟩ = .exc 6 (.str y) [some (.lam 1), none] S1 := seq_exc (ex_exc (show fCall F_lot_behind (fArgs [(fVar 0), (fVar 1), (fVar 2)]) [some goodD, some (iT [0, 4]), some (.str y)] ⟨0, [], some (cel goodD s (.str y) (iT [0, 4]) g n)⟩ = _ from (call_ok (ds := [goodD, (iT [0, 4]), .str y]) rfl).trans hs))
    have e3 : gTry 1 (fun k => decide (k < 7)) (gSeq (gEx (fAct lamTab 0)) gNil) (gSeq (gRet (fVar 1)) gNil) [some (.lam 1), none] ⟨0, [], some (cel goodD s (.str y) (iT [0, 4]) g n)⟩ = .ok (.rt (.exc 6 (.str y))) S1 := by
      unfold gTry
      rw [e2]
      rfl
    rw [seq_rt e3]
    rfl
  have hf : F__law_is_raised [.lam 1, .tup [.str "wave", .str y]] ⟨0, [], some (cel goodD s (.str y) (iT [0, 4]) g n)⟩ = (g__law_is_raised [some (.lam 1), some (.tup [.str "wave", .str y]), none, none] ⟨0, [], some (cel goodD s (.str y) (iT [0, 4]) g n)⟩).fin := rfl
  rw [hf]
  unfold g__law_is_raised
  rw [seq_nx (set_ok ((call_ok (ds := [.lam 1]) rfl).trans hc))]
  clear hf hc hs hk
  subst hS
  refine isT_seq (by kernel_rfl) (isT_seq (by kernel_rfl) (isT_seq (by kernel_rfl) (isT_ret (raised_tail hr (by kernel_rfl) (by kernel_rfl) (by kernel_rfl)))))
theorem k2_big {y ry : Str} (hy : y.length = 5001) (hr : rp (.str y) = some ry) (l g n : D) : isT (F__law_is_raised [.lam 2, .tup [.str "wave", .str y]] ⟨0, [], some (cel goodD (.int 2) (.str y) l g n)⟩) = true := by
  obtain ⟨S1, hS⟩ : ∃ S1, S1 = stOf (fCall F_check_state (fArgs [fVar 0, fVar 1]) (startE 5 [goodD, (.int 2), .str y]) ⟨0, [], some (cel goodD (.int 2) (.str y) l g n)⟩) := ⟨_, rfl⟩
  have hk : fCall F_check_state (fArgs [fVar 0, fVar 1]) (startE 5 [goodD, (.int 2), .str y]) ⟨0, [], some (cel goodD (.int 2) (.str y) l g n)⟩ = .ok .non S1 := by
    rw [hS]
    kernel_rfl
  have hs : F_shown_by [goodD, (.int 2), .str y] ⟨0, [], some (cel goodD (.int 2) (.str y) l g n)⟩ = .exc 6 (.str y) S1 := by
    show (g_shown_by (startE 5 [goodD, (.int 2), .str y]) ⟨0, [], some (cel goodD (.int 2) (.str y) l g n)⟩).fin = _
    unfold g_shown_by
    rw [seq_nx (ex_ok hk)]
    rw [seq_exc (ex_exc ((call_ok (ds := [.str y]) (S1 := S1) rfl).trans (checkWave_long hy S1)))]
    rfl
  have hc : F__law_caught [.lam 2] ⟨0, [], some (cel goodD (.int 2) (.str y) l g n)⟩ = .ok (.exc 6 (.str y)) S1 := by
    show (g__law_caught [some (.lam 2), none] ⟨0, [], some (cel goodD (.int 2) (.str y) l g n)⟩).fin = _
    unfold g__law_caught
    have e2 : gSeq (gEx (fAct lamTab 0)) gNil [some (.lam 2), none] ⟨0, [], some (cel goodD (.int 2) (.str y) l g n)⟩ = .exc 6 (.str y) [some (.lam 2), none] S1 := seq_exc (ex_exc (show fCall F_shown_by (fArgs [(fVar 0), (fVar 1), (fVar 2)]) [some goodD, some (.int 2), some (.str y)] ⟨0, [], some (cel goodD (.int 2) (.str y) l g n)⟩ = _ from (call_ok (ds := [goodD, (.int 2), .str y]) rfl).trans hs))
    have e3 : gTry 1 (fun k => decide (k < 7)) (gSeq (gEx (fAct lamTab 0)) gNil) (gSeq (gRet (fVar 1)) gNil) [some (.lam 2), none] ⟨0, [], some (cel goodD (.int 2) (.str y) l g n)⟩ = .ok (.rt (.exc 6 (.str y))) S1 := by
      unfold gTry
      rw [e2]
      rfl
    rw [seq_rt e3]
    rfl
  have hf : F__law_is_raised [.lam 2, .tup [.str "wave", .str y]] ⟨0, [], some (cel goodD (.int 2) (.str y) l g n)⟩ = (g__law_is_raised [some (.lam 2), some (.tup [.str "wave", .str y]), none, none] ⟨0, [], some (cel goodD (.int 2) (.str y) l g n)⟩).fin := rfl
  rw [hf]
  unfold g__law_is_raised
  rw [seq_nx (set_ok ((call_ok (ds := [.lam 2]) rfl).trans hc))]
  clear hf hc hs hk
  subst hS
  refine isT_seq (by kernel_rfl) (isT_seq (by kernel_rfl) (isT_seq (by kernel_rfl) (isT_ret (raised_tail hr (by kernel_rfl) (by kernel_rfl) (by kernel_rfl)))))
end Z
set_option Elab.async false
set_option linter.all false
set_option autoImplicit false
set_option maxRecDepth 100000
set_option maxHeartbeats 0
namespace Z
open PySem PySem.Spec PyProof.Rows L2

theorem big_len : big.length = 5001 := by
  unfold big
  rw [repS_len]
  rfl
theorem big_chars : ∀ c ∈ big.cps.toList, c = 100 := by
  intro c hc
  unfold big repS at hc
  have e : ("d" : Str).cps.toList = [100] := by decide +kernel
  rw [e] at hc
  have hc : c ∈ (List.replicate 5001 [100]).flatten := hc
  obtain ⟨l, hl, hc⟩ := List.mem_flatten.mp hc
  rw [(List.mem_replicate.mp hl).2] at hc
  exact List.mem_singleton.mp hc
theorem big_rp : rp (.str big) = some (reprText big) := by
  have h1 : (PyData.str big).shown = reprText big := PyData.shown_str big
  have h2 : (reprText big).length ≤ 10 * big.length + 2 := StrLaws.reprText_len big fun c hc => by
    rw [big_chars c hc]
    decide
  rw [big_len] at h2
  have ok : okRep (.str big) = true := by
    unfold okRep
    rw [h1]
    have a : (PyData.str big).showable = true := by simp only [PyData.showable]
    have b : (PyData.str big).depth < 20 := by simp [PyData.depth]
    have c : (PyData.str big).hasDict = false := by simp only [PyData.hasDict]
    rw [a, c, decide_eq_true b, decide_eq_true (by omega)]
    rfl
  show (if okRep (.str big) = true then some (PyData.str big).shown else none) = _
  rw [if_pos ok, h1]
theorem foldl_ge (q : Nat) : ∀ (l : List Nat) (n : Nat), (∀ c ∈ l, c = 100) → (1 ≤ (Builtin.Str.reprChar q 100).length) → n + l.length ≤ l.foldl (fun n c => n + (Builtin.Str.reprChar q c).length) n
  | [], n, _, _ => Nat.le_refl _
  | c :: l, n, h, h1 => by
    have e := h c (List.mem_cons_self ..)
    subst e
    rw [List.foldl_cons, List.length_cons]
    have := foldl_ge q l (n + (Builtin.Str.reprChar q 100).length) (fun c hc => h c (List.mem_cons_of_mem _ hc)) h1
    omega
theorem big_ge : 5003 ≤ (reprText big).length := by
  rw [← reprLen_eq, ← Array.foldl_toList]
  have hl : big.cps.toList.length = 5001 := by
    rw [Array.length_toList]
    exact big_len
  have hq : 1 ≤ (Builtin.Str.reprChar (reprQuote big) 100).length := by
    have : reprQuote big = 34 ∨ reprQuote big = 39 := by
      unfold reprQuote
      split <;> simp
    rcases this with h | h
    · rw [h]; decide +kernel
    · rw [h]; decide +kernel
  have := foldl_ge (reprQuote big) big.cps.toList 2 big_chars hq
  omega
def rI : Str := (rp goodD).getD ""
def rS : Str := "2"
def rL : Str := (rp (iT [0, 4])).getD ""
def rW : Str := (rp (.str "dl")).getD ""
def rG : Str := "2"
def rN : Str := "3"
theorem hgI : rp goodD = some rI := by kernel_rfl
theorem hgS : rp (.int 2) = some rS := by kernel_rfl
theorem hgL : rp (iT [0, 4]) = some rL := by kernel_rfl
theorem hgW : rp (.str "dl") = some rW := by kernel_rfl
theorem hgG : rp (.int 2) = some rG := by kernel_rfl
theorem hgN : rp (.int 3) = some rN := by kernel_rfl
theorem hbI : ∀ x ∈ inkB, rpBad rI x = true := List.all_eq_true.mp (by kernel_rfl)
theorem hbS : ∀ x ∈ stateB, rpBad rS x = true := List.all_eq_true.mp (by kernel_rfl)
theorem hbL : ∀ x ∈ lotB, rpBad rL x = true := List.all_eq_true.mp (by kernel_rfl)
theorem hbW0 : ∀ x ∈ waveB, rpBad rW x = true := List.all_eq_true.mp (by kernel_rfl)
theorem rW_len : rW.length = 4 := by decide +kernel
theorem hbW1 {y ry : Str} (h : rp (.str y) = some ry) (hl : 5003 ≤ ry.length) : rpBad rW (.str y) = true := by
  unfold rpBad
  rw [h]
  dsimp only
  have ne : ry ≠ rW := fun z => by
    rw [z, rW_len] at hl
    omega
  rw [decide_eq_false ne]
  rfl
theorem hbW : ∀ x ∈ waveB ++ [.str big], rpBad rW x = true := fun x hx => by
  rcases List.mem_append.mp hx with h | h
  · exact hbW0 x h
  · rw [List.mem_singleton.mp h]
    exact hbW1 big_rp big_ge
theorem hbG : ∀ x ∈ greyB, rpBad rG x = true := List.all_eq_true.mp (by kernel_rfl)
theorem hbN : ∀ x ∈ numberB, rpBad rN x = true := List.all_eq_true.mp (by kernel_rfl)
theorem nl_all {gd : D} {bads : List D} {nm : Str} {x : D} {li : List D} (h : Item gd bads nm x li) (hg : nlD 9 gd = true) (hb : ∀ x ∈ bads, nlD 9 x = true) : nlD 9 x = true := by
  rcases h with ⟨e, _⟩ | ⟨e, _⟩
  · rw [e]; exact hg
  · exact hb x e
theorem hd_one {nm : Str} {x : D} (h : ∀ f, nlD f x = true → True) (h1 : nlD 9 x = true) (h2 : nlD 8 x = true) : nlD 9 (.tup [.str nm, x]) = true := by
  show ([D.str nm, x].all (nlD 8)) = true
  rw [List.all_cons, List.all_cons, h2]
  rfl
theorem nl8I : ∀ x ∈ inkB, nlD 8 x = true := List.all_eq_true.mp (by kernel_rfl)
theorem nl9I : ∀ x ∈ inkB, nlD 9 x = true := List.all_eq_true.mp (by kernel_rfl)
theorem nl8S : ∀ x ∈ stateB, nlD 8 x = true := List.all_eq_true.mp (by kernel_rfl)
theorem nl9S : ∀ x ∈ stateB, nlD 9 x = true := List.all_eq_true.mp (by kernel_rfl)
theorem nl8L : ∀ x ∈ lotB, nlD 8 x = true := List.all_eq_true.mp (by kernel_rfl)
theorem nl9L : ∀ x ∈ lotB, nlD 9 x = true := List.all_eq_true.mp (by kernel_rfl)
theorem nl8W : ∀ x ∈ waveB ++ [.str big], nlD 8 x = true := fun x hx => by
  rcases List.mem_append.mp hx with h | h
  · exact List.all_eq_true.mp (show waveB.all (nlD 8) = true by kernel_rfl) x h
  · rw [List.mem_singleton.mp h]
    rfl
theorem nl9W : ∀ x ∈ waveB ++ [.str big], nlD 9 x = true := fun x hx => by
  rcases List.mem_append.mp hx with h | h
  · exact List.all_eq_true.mp (show waveB.all (nlD 9) = true by kernel_rfl) x h
  · rw [List.mem_singleton.mp h]
    rfl
theorem nl8G : ∀ x ∈ greyB, nlD 8 x = true := List.all_eq_true.mp (by kernel_rfl)
theorem nl9G : ∀ x ∈ greyB, nlD 9 x = true := List.all_eq_true.mp (by kernel_rfl)
theorem nl8N : ∀ x ∈ numberB, nlD 8 x = true := List.all_eq_true.mp (by kernel_rfl)
theorem nl9N : ∀ x ∈ numberB, nlD 9 x = true := List.all_eq_true.mp (by kernel_rfl)
theorem nl_due {gd : D} {bads : List D} {nm : Str} {x : D} {li rest : List D} (h : Item gd bads nm x li) (hb : ∀ x ∈ bads, nlD 8 x = true) (hr : nlD 9 (hdD rest) = true) : nlD 9 (hdD (li ++ rest)) = true := by
  rcases h with ⟨_, e⟩ | ⟨hx, e⟩
  · rw [e]; exact hr
  · rw [e]
    show ([D.str nm, x].all (nlD 8)) = true
    rw [List.all_cons, List.all_cons, hb x hx]
    rfl
theorem L0 {i s w l g n : D} {li ls lw ll lg ln : List D} (hi : Item goodD inkB "ink" i li) (hs : Item (.int 2) stateB "state" s ls) (hw : Item (.str "dl") (waveB ++ [.str big]) "wave" w lw) (hl : Item (iT [0, 4]) lotB "lot" l ll) (hg : Item (.int 2) greyB "grey" g lg) (hn : Item (.int 3) numberB "number" n ln) (q : Nat) : LkF F__law_is_raised (cel i s w l g n) ⟨0, q, ((li ++ ls) ++ lw)⟩ := by
  have e : ((li ++ ls) ++ lw) = (li ++ (ls ++ (lw ++ []))) := by simp only [List.append_assoc, List.append_nil]
  refine ⟨?_, ?_, ?_⟩
  · have := hi.len
    have := hs.len
    have := hw.len
    have := hl.len
    have := hg.len
    have := hn.len
    simp only [List.length_append]
    omega
  · show nlD 9 (hdD ((li ++ ls) ++ lw)) = true
    rw [e]
    exact (nl_due hi nl8I (nl_due hs nl8S (nl_due hw nl8W rfl)))
  · show isT (F__law_is_raised [.lam 0, hdD ((li ++ ls) ++ lw)] ⟨0, [], some (cel i s w l g n)⟩) = true
    rw [e]
    rcases hi with ⟨e1, e2⟩ | ⟨hm, e2⟩
    rotate_left
    · rw [e2]
      exact List.all_eq_true.mp (k0_i s w l g n) _ hm
    rw [e2]
    subst e1
    rcases hs with ⟨e1, e2⟩ | ⟨hm, e2⟩
    rotate_left
    · rw [e2]
      exact List.all_eq_true.mp (k0_s w l g n) _ hm
    rw [e2]
    subst e1
    rcases hw with ⟨e1, e2⟩ | ⟨hm, e2⟩
    rotate_left
    · rw [e2]
      rcases List.mem_append.mp hm with hm | hm
      · exact List.all_eq_true.mp (k0_w l g n) _ hm
      · rw [List.mem_singleton.mp hm]
        exact k0_big big_len big_rp l g n
    rw [e2]
    subst e1
    exact k0_ok l g n
theorem L1 {i s w l g n : D} {li ls lw ll lg ln : List D} (hi : Item goodD inkB "ink" i li) (hs : Item (.int 2) stateB "state" s ls) (hw : Item (.str "dl") (waveB ++ [.str big]) "wave" w lw) (hl : Item (iT [0, 4]) lotB "lot" l ll) (hg : Item (.int 2) greyB "grey" g lg) (hn : Item (.int 3) numberB "number" n ln) (q : Nat) : LkF F__law_is_raised (cel i s w l g n) ⟨1, q, ((li ++ ll) ++ lw)⟩ := by
  have e : ((li ++ ll) ++ lw) = (li ++ (ll ++ (lw ++ []))) := by simp only [List.append_assoc, List.append_nil]
  refine ⟨?_, ?_, ?_⟩
  · have := hi.len
    have := hs.len
    have := hw.len
    have := hl.len
    have := hg.len
    have := hn.len
    simp only [List.length_append]
    omega
  · show nlD 9 (hdD ((li ++ ll) ++ lw)) = true
    rw [e]
    exact (nl_due hi nl8I (nl_due hl nl8L (nl_due hw nl8W rfl)))
  · show isT (F__law_is_raised [.lam 1, hdD ((li ++ ll) ++ lw)] ⟨0, [], some (cel i s w l g n)⟩) = true
    rw [e]
    rcases hi with ⟨e1, e2⟩ | ⟨hm, e2⟩
    rotate_left
    · rw [e2]
      exact List.all_eq_true.mp (k1_i s w l g n) _ hm
    rw [e2]
    subst e1
    rcases hl with ⟨e1, e2⟩ | ⟨hm, e2⟩
    rotate_left
    · rw [e2]
      exact List.all_eq_true.mp (k1_l s w g n) _ hm
    rw [e2]
    subst e1
    rcases hw with ⟨e1, e2⟩ | ⟨hm, e2⟩
    rotate_left
    · rw [e2]
      rcases List.mem_append.mp hm with hm | hm
      · exact List.all_eq_true.mp (k1_w s g n) _ hm
      · rw [List.mem_singleton.mp hm]
        exact k1_big big_len big_rp s g n
    rw [e2]
    subst e1
    exact k1_ok s g n
theorem L2 {i s w l g n : D} {li ls lw ll lg ln : List D} (hi : Item goodD inkB "ink" i li) (hs : Item (.int 2) stateB "state" s ls) (hw : Item (.str "dl") (waveB ++ [.str big]) "wave" w lw) (hl : Item (iT [0, 4]) lotB "lot" l ll) (hg : Item (.int 2) greyB "grey" g lg) (hn : Item (.int 3) numberB "number" n ln) (q : Nat) : LkF F__law_is_raised (cel i s w l g n) ⟨2, q, ((li ++ ls) ++ lw)⟩ := by
  have e : ((li ++ ls) ++ lw) = (li ++ (ls ++ (lw ++ []))) := by simp only [List.append_assoc, List.append_nil]
  refine ⟨?_, ?_, ?_⟩
  · have := hi.len
    have := hs.len
    have := hw.len
    have := hl.len
    have := hg.len
    have := hn.len
    simp only [List.length_append]
    omega
  · show nlD 9 (hdD ((li ++ ls) ++ lw)) = true
    rw [e]
    exact (nl_due hi nl8I (nl_due hs nl8S (nl_due hw nl8W rfl)))
  · show isT (F__law_is_raised [.lam 2, hdD ((li ++ ls) ++ lw)] ⟨0, [], some (cel i s w l g n)⟩) = true
    rw [e]
    rcases hi with ⟨e1, e2⟩ | ⟨hm, e2⟩
    rotate_left
    · rw [e2]
      exact List.all_eq_true.mp (k2_i s w l g n) _ hm
    rw [e2]
    subst e1
    rcases hs with ⟨e1, e2⟩ | ⟨hm, e2⟩
    rotate_left
    · rw [e2]
      exact List.all_eq_true.mp (k2_s w l g n) _ hm
    rw [e2]
    subst e1
    rcases hw with ⟨e1, e2⟩ | ⟨hm, e2⟩
    rotate_left
    · rw [e2]
      rcases List.mem_append.mp hm with hm | hm
      · exact List.all_eq_true.mp (k2_w l g n) _ hm
      · rw [List.mem_singleton.mp hm]
        exact k2_big big_len big_rp l g n
    rw [e2]
    subst e1
    exact k2_ok l g n
theorem L3 {i s w l g n : D} {li ls lw ll lg ln : List D} (hi : Item goodD inkB "ink" i li) (hs : Item (.int 2) stateB "state" s ls) (hw : Item (.str "dl") (waveB ++ [.str big]) "wave" w lw) (hl : Item (iT [0, 4]) lotB "lot" l ll) (hg : Item (.int 2) greyB "grey" g lg) (hn : Item (.int 3) numberB "number" n ln) (q : Nat) : LkF F__law_is_raised (cel i s w l g n) ⟨3, q, (li ++ ls)⟩ := by
  have e : (li ++ ls) = (li ++ (ls ++ [])) := by simp only [List.append_assoc, List.append_nil]
  refine ⟨?_, ?_, ?_⟩
  · have := hi.len
    have := hs.len
    have := hw.len
    have := hl.len
    have := hg.len
    have := hn.len
    simp only [List.length_append]
    omega
  · show nlD 9 (hdD (li ++ ls)) = true
    rw [e]
    exact (nl_due hi nl8I (nl_due hs nl8S rfl))
  · show isT (F__law_is_raised [.lam 3, hdD (li ++ ls)] ⟨0, [], some (cel i s w l g n)⟩) = true
    rw [e]
    rcases hi with ⟨e1, e2⟩ | ⟨hm, e2⟩
    rotate_left
    · rw [e2]
      exact List.all_eq_true.mp (k3_i s w l g n) _ hm
    rw [e2]
    subst e1
    rcases hs with ⟨e1, e2⟩ | ⟨hm, e2⟩
    rotate_left
    · rw [e2]
      exact List.all_eq_true.mp (k3_s w l g n) _ hm
    rw [e2]
    subst e1
    exact k3_ok w l g n
theorem L4 {i s w l g n : D} {li ls lw ll lg ln : List D} (hi : Item goodD inkB "ink" i li) (hs : Item (.int 2) stateB "state" s ls) (hw : Item (.str "dl") (waveB ++ [.str big]) "wave" w lw) (hl : Item (iT [0, 4]) lotB "lot" l ll) (hg : Item (.int 2) greyB "grey" g lg) (hn : Item (.int 3) numberB "number" n ln) (q : Nat) : LkF F__law_is_raised (cel i s w l g n) ⟨4, q, (li ++ ll)⟩ := by
  have e : (li ++ ll) = (li ++ (ll ++ [])) := by simp only [List.append_assoc, List.append_nil]
  refine ⟨?_, ?_, ?_⟩
  · have := hi.len
    have := hs.len
    have := hw.len
    have := hl.len
    have := hg.len
    have := hn.len
    simp only [List.length_append]
    omega
  · show nlD 9 (hdD (li ++ ll)) = true
    rw [e]
    exact (nl_due hi nl8I (nl_due hl nl8L rfl))
  · show isT (F__law_is_raised [.lam 4, hdD (li ++ ll)] ⟨0, [], some (cel i s w l g n)⟩) = true
    rw [e]
    rcases hi with ⟨e1, e2⟩ | ⟨hm, e2⟩
    rotate_left
    · rw [e2]
      exact List.all_eq_true.mp (k4_i s w l g n) _ hm
    rw [e2]
    subst e1
    rcases hl with ⟨e1, e2⟩ | ⟨hm, e2⟩
    rotate_left
    · rw [e2]
      exact List.all_eq_true.mp (k4_l s w g n) _ hm
    rw [e2]
    subst e1
    exact k4_ok s w g n
theorem L5 {i s w l g n : D} {li ls lw ll lg ln : List D} (hi : Item goodD inkB "ink" i li) (hs : Item (.int 2) stateB "state" s ls) (hw : Item (.str "dl") (waveB ++ [.str big]) "wave" w lw) (hl : Item (iT [0, 4]) lotB "lot" l ll) (hg : Item (.int 2) greyB "grey" g lg) (hn : Item (.int 3) numberB "number" n ln) (q : Nat) : LkF F__law_is_raised (cel i s w l g n) ⟨5, q, (li ++ lg)⟩ := by
  have e : (li ++ lg) = (li ++ (lg ++ [])) := by simp only [List.append_assoc, List.append_nil]
  refine ⟨?_, ?_, ?_⟩
  · have := hi.len
    have := hs.len
    have := hw.len
    have := hl.len
    have := hg.len
    have := hn.len
    simp only [List.length_append]
    omega
  · show nlD 9 (hdD (li ++ lg)) = true
    rw [e]
    exact (nl_due hi nl8I (nl_due hg nl8G rfl))
  · show isT (F__law_is_raised [.lam 5, hdD (li ++ lg)] ⟨0, [], some (cel i s w l g n)⟩) = true
    rw [e]
    rcases hi with ⟨e1, e2⟩ | ⟨hm, e2⟩
    rotate_left
    · rw [e2]
      exact List.all_eq_true.mp (k5_i s w l g n) _ hm
    rw [e2]
    subst e1
    rcases hg with ⟨e1, e2⟩ | ⟨hm, e2⟩
    rotate_left
    · rw [e2]
      exact List.all_eq_true.mp (k5_g s w l n) _ hm
    rw [e2]
    subst e1
    exact k5_ok s w l n
theorem L6 {i s w l g n : D} {li ls lw ll lg ln : List D} (hi : Item goodD inkB "ink" i li) (hs : Item (.int 2) stateB "state" s ls) (hw : Item (.str "dl") (waveB ++ [.str big]) "wave" w lw) (hl : Item (iT [0, 4]) lotB "lot" l ll) (hg : Item (.int 2) greyB "grey" g lg) (hn : Item (.int 3) numberB "number" n ln) (q : Nat) : LkF F__law_is_raised (cel i s w l g n) ⟨6, q, li⟩ := by
  have e : li = (li ++ []) := by simp only [List.append_assoc, List.append_nil]
  refine ⟨?_, ?_, ?_⟩
  · have := hi.len
    have := hs.len
    have := hw.len
    have := hl.len
    have := hg.len
    have := hn.len
    simp only [List.length_append]
    omega
  · show nlD 9 (hdD li) = true
    rw [e]
    exact (nl_due hi nl8I rfl)
  · show isT (F__law_is_raised [.lam 6, hdD li] ⟨0, [], some (cel i s w l g n)⟩) = true
    rw [e]
    rcases hi with ⟨e1, e2⟩ | ⟨hm, e2⟩
    rotate_left
    · rw [e2]
      exact List.all_eq_true.mp (k6_i s w l g n) _ hm
    rw [e2]
    subst e1
    exact k6_ok s w l g n
theorem L7 {i s w l g n : D} {li ls lw ll lg ln : List D} (hi : Item goodD inkB "ink" i li) (hs : Item (.int 2) stateB "state" s ls) (hw : Item (.str "dl") (waveB ++ [.str big]) "wave" w lw) (hl : Item (iT [0, 4]) lotB "lot" l ll) (hg : Item (.int 2) greyB "grey" g lg) (hn : Item (.int 3) numberB "number" n ln) (q : Nat) : LkF F__law_is_raised (cel i s w l g n) ⟨7, q, ((li ++ ll) ++ lg)⟩ := by
  have e : ((li ++ ll) ++ lg) = (li ++ (ll ++ (lg ++ []))) := by simp only [List.append_assoc, List.append_nil]
  refine ⟨?_, ?_, ?_⟩
  · have := hi.len
    have := hs.len
    have := hw.len
    have := hl.len
    have := hg.len
    have := hn.len
    simp only [List.length_append]
    omega
  · show nlD 9 (hdD ((li ++ ll) ++ lg)) = true
    rw [e]
    exact (nl_due hi nl8I (nl_due hl nl8L (nl_due hg nl8G rfl)))
  · show isT (F__law_is_raised [.lam 7, hdD ((li ++ ll) ++ lg)] ⟨0, [], some (cel i s w l g n)⟩) = true
    rw [e]
    rcases hi with ⟨e1, e2⟩ | ⟨hm, e2⟩
    rotate_left
    · rw [e2]
      exact List.all_eq_true.mp (k7_i s w l g n) _ hm
    rw [e2]
    subst e1
    rcases hl with ⟨e1, e2⟩ | ⟨hm, e2⟩
    rotate_left
    · rw [e2]
      exact List.all_eq_true.mp (k7_l s w g n) _ hm
    rw [e2]
    subst e1
    rcases hg with ⟨e1, e2⟩ | ⟨hm, e2⟩
    rotate_left
    · rw [e2]
      exact List.all_eq_true.mp (k7_g s w n) _ hm
    rw [e2]
    subst e1
    exact k7_ok s w n
theorem L8 {i s w l g n : D} {li ls lw ll lg ln : List D} (hi : Item goodD inkB "ink" i li) (hs : Item (.int 2) stateB "state" s ls) (hw : Item (.str "dl") (waveB ++ [.str big]) "wave" w lw) (hl : Item (iT [0, 4]) lotB "lot" l ll) (hg : Item (.int 2) greyB "grey" g lg) (hn : Item (.int 3) numberB "number" n ln) (q : Nat) : LkF F__law_is_raised (cel i s w l g n) ⟨8, q, ((li ++ ll) ++ lg)⟩ := by
  have e : ((li ++ ll) ++ lg) = (li ++ (ll ++ (lg ++ []))) := by simp only [List.append_assoc, List.append_nil]
  refine ⟨?_, ?_, ?_⟩
  · have := hi.len
    have := hs.len
    have := hw.len
    have := hl.len
    have := hg.len
    have := hn.len
    simp only [List.length_append]
    omega
  · show nlD 9 (hdD ((li ++ ll) ++ lg)) = true
    rw [e]
    exact (nl_due hi nl8I (nl_due hl nl8L (nl_due hg nl8G rfl)))
  · show isT (F__law_is_raised [.lam 8, hdD ((li ++ ll) ++ lg)] ⟨0, [], some (cel i s w l g n)⟩) = true
    rw [e]
    rcases hi with ⟨e1, e2⟩ | ⟨hm, e2⟩
    rotate_left
    · rw [e2]
      exact List.all_eq_true.mp (k8_i s w l g n) _ hm
    rw [e2]
    subst e1
    rcases hl with ⟨e1, e2⟩ | ⟨hm, e2⟩
    rotate_left
    · rw [e2]
      exact List.all_eq_true.mp (k8_l s w g n) _ hm
    rw [e2]
    subst e1
    rcases hg with ⟨e1, e2⟩ | ⟨hm, e2⟩
    rotate_left
    · rw [e2]
      exact List.all_eq_true.mp (k8_g s w n) _ hm
    rw [e2]
    subst e1
    exact k8_ok s w n
theorem L9 {i s w l g n : D} {li ls lw ll lg ln : List D} (hi : Item goodD inkB "ink" i li) (hs : Item (.int 2) stateB "state" s ls) (hw : Item (.str "dl") (waveB ++ [.str big]) "wave" w lw) (hl : Item (iT [0, 4]) lotB "lot" l ll) (hg : Item (.int 2) greyB "grey" g lg) (hn : Item (.int 3) numberB "number" n ln) (q : Nat) : LkF F__law_is_raised (cel i s w l g n) ⟨9, q, ((li ++ ll) ++ lg)⟩ := by
  have e : ((li ++ ll) ++ lg) = (li ++ (ll ++ (lg ++ []))) := by simp only [List.append_assoc, List.append_nil]
  refine ⟨?_, ?_, ?_⟩
  · have := hi.len
    have := hs.len
    have := hw.len
    have := hl.len
    have := hg.len
    have := hn.len
    simp only [List.length_append]
    omega
  · show nlD 9 (hdD ((li ++ ll) ++ lg)) = true
    rw [e]
    exact (nl_due hi nl8I (nl_due hl nl8L (nl_due hg nl8G rfl)))
  · show isT (F__law_is_raised [.lam 9, hdD ((li ++ ll) ++ lg)] ⟨0, [], some (cel i s w l g n)⟩) = true
    rw [e]
    rcases hi with ⟨e1, e2⟩ | ⟨hm, e2⟩
    rotate_left
    · rw [e2]
      exact List.all_eq_true.mp (k9_i s w l g n) _ hm
    rw [e2]
    subst e1
    rcases hl with ⟨e1, e2⟩ | ⟨hm, e2⟩
    rotate_left
    · rw [e2]
      exact List.all_eq_true.mp (k9_l s w g n) _ hm
    rw [e2]
    subst e1
    rcases hg with ⟨e1, e2⟩ | ⟨hm, e2⟩
    rotate_left
    · rw [e2]
      exact List.all_eq_true.mp (k9_g s w n) _ hm
    rw [e2]
    subst e1
    exact k9_ok s w n
theorem L10 {i s w l g n : D} {li ls lw ll lg ln : List D} (hi : Item goodD inkB "ink" i li) (hs : Item (.int 2) stateB "state" s ls) (hw : Item (.str "dl") (waveB ++ [.str big]) "wave" w lw) (hl : Item (iT [0, 4]) lotB "lot" l ll) (hg : Item (.int 2) greyB "grey" g lg) (hn : Item (.int 3) numberB "number" n ln) (q : Nat) : LkF F__law_is_raised (cel i s w l g n) ⟨10, q, ((li ++ ll) ++ lg)⟩ := by
  have e : ((li ++ ll) ++ lg) = (li ++ (ll ++ (lg ++ []))) := by simp only [List.append_assoc, List.append_nil]
  refine ⟨?_, ?_, ?_⟩
  · have := hi.len
    have := hs.len
    have := hw.len
    have := hl.len
    have := hg.len
    have := hn.len
    simp only [List.length_append]
    omega
  · show nlD 9 (hdD ((li ++ ll) ++ lg)) = true
    rw [e]
    exact (nl_due hi nl8I (nl_due hl nl8L (nl_due hg nl8G rfl)))
  · show isT (F__law_is_raised [.lam 10, hdD ((li ++ ll) ++ lg)] ⟨0, [], some (cel i s w l g n)⟩) = true
    rw [e]
    rcases hi with ⟨e1, e2⟩ | ⟨hm, e2⟩
    rotate_left
    · rw [e2]
      exact List.all_eq_true.mp (k10_i s w l g n) _ hm
    rw [e2]
    subst e1
    rcases hl with ⟨e1, e2⟩ | ⟨hm, e2⟩
    rotate_left
    · rw [e2]
      exact List.all_eq_true.mp (k10_l s w g n) _ hm
    rw [e2]
    subst e1
    rcases hg with ⟨e1, e2⟩ | ⟨hm, e2⟩
    rotate_left
    · rw [e2]
      exact List.all_eq_true.mp (k10_g s w n) _ hm
    rw [e2]
    subst e1
    exact k10_ok s w n
theorem L11 {i s w l g n : D} {li ls lw ll lg ln : List D} (hi : Item goodD inkB "ink" i li) (hs : Item (.int 2) stateB "state" s ls) (hw : Item (.str "dl") (waveB ++ [.str big]) "wave" w lw) (hl : Item (iT [0, 4]) lotB "lot" l ll) (hg : Item (.int 2) greyB "grey" g lg) (hn : Item (.int 3) numberB "number" n ln) (q : Nat) : LkF F__law_is_raised (cel i s w l g n) ⟨11, q, (((li ++ ll) ++ lg) ++ ln)⟩ := by
  have e : (((li ++ ll) ++ lg) ++ ln) = (li ++ (ll ++ (lg ++ (ln ++ [])))) := by simp only [List.append_assoc, List.append_nil]
  refine ⟨?_, ?_, ?_⟩
  · have := hi.len
    have := hs.len
    have := hw.len
    have := hl.len
    have := hg.len
    have := hn.len
    simp only [List.length_append]
    omega
  · show nlD 9 (hdD (((li ++ ll) ++ lg) ++ ln)) = true
    rw [e]
    exact (nl_due hi nl8I (nl_due hl nl8L (nl_due hg nl8G (nl_due hn nl8N rfl))))
  · show isT (F__law_is_raised [.lam 11, hdD (((li ++ ll) ++ lg) ++ ln)] ⟨0, [], some (cel i s w l g n)⟩) = true
    rw [e]
    rcases hi with ⟨e1, e2⟩ | ⟨hm, e2⟩
    rotate_left
    · rw [e2]
      exact List.all_eq_true.mp (k11_i s w l g n) _ hm
    rw [e2]
    subst e1
    rcases hl with ⟨e1, e2⟩ | ⟨hm, e2⟩
    rotate_left
    · rw [e2]
      exact List.all_eq_true.mp (k11_l s w g n) _ hm
    rw [e2]
    subst e1
    rcases hg with ⟨e1, e2⟩ | ⟨hm, e2⟩
    rotate_left
    · rw [e2]
      exact List.all_eq_true.mp (k11_g s w n) _ hm
    rw [e2]
    subst e1
    rcases hn with ⟨e1, e2⟩ | ⟨hm, e2⟩
    rotate_left
    · rw [e2]
      exact List.all_eq_true.mp (k11_n s w) _ hm
    rw [e2]
    subst e1
    exact k11_ok s w
theorem L12 {i s w l g n : D} {li ls lw ll lg ln : List D} (hi : Item goodD inkB "ink" i li) (hs : Item (.int 2) stateB "state" s ls) (hw : Item (.str "dl") (waveB ++ [.str big]) "wave" w lw) (hl : Item (iT [0, 4]) lotB "lot" l ll) (hg : Item (.int 2) greyB "grey" g lg) (hn : Item (.int 3) numberB "number" n ln) (q : Nat) : LkF F__law_is_raised (cel i s w l g n) ⟨12, q, (li ++ ll)⟩ := by
  have e : (li ++ ll) = (li ++ (ll ++ [])) := by simp only [List.append_assoc, List.append_nil]
  refine ⟨?_, ?_, ?_⟩
  · have := hi.len
    have := hs.len
    have := hw.len
    have := hl.len
    have := hg.len
    have := hn.len
    simp only [List.length_append]
    omega
  · show nlD 9 (hdD (li ++ ll)) = true
    rw [e]
    exact (nl_due hi nl8I (nl_due hl nl8L rfl))
  · show isT (F__law_is_raised [.lam 12, hdD (li ++ ll)] ⟨0, [], some (cel i s w l g n)⟩) = true
    rw [e]
    rcases hi with ⟨e1, e2⟩ | ⟨hm, e2⟩
    rotate_left
    · rw [e2]
      exact List.all_eq_true.mp (k12_i s w l g n) _ hm
    rw [e2]
    subst e1
    rcases hl with ⟨e1, e2⟩ | ⟨hm, e2⟩
    rotate_left
    · rw [e2]
      exact List.all_eq_true.mp (k12_l s w g n) _ hm
    rw [e2]
    subst e1
    exact k12_ok s w g n
theorem L13 {i s w l g n : D} {li ls lw ll lg ln : List D} (hi : Item goodD inkB "ink" i li) (hs : Item (.int 2) stateB "state" s ls) (hw : Item (.str "dl") (waveB ++ [.str big]) "wave" w lw) (hl : Item (iT [0, 4]) lotB "lot" l ll) (hg : Item (.int 2) greyB "grey" g lg) (hn : Item (.int 3) numberB "number" n ln) (q : Nat) : LkF F__law_is_raised (cel i s w l g n) ⟨13, q, (li ++ ll)⟩ := by
  have e : (li ++ ll) = (li ++ (ll ++ [])) := by simp only [List.append_assoc, List.append_nil]
  refine ⟨?_, ?_, ?_⟩
  · have := hi.len
    have := hs.len
    have := hw.len
    have := hl.len
    have := hg.len
    have := hn.len
    simp only [List.length_append]
    omega
  · show nlD 9 (hdD (li ++ ll)) = true
    rw [e]
    exact (nl_due hi nl8I (nl_due hl nl8L rfl))
  · show isT (F__law_is_raised [.lam 13, hdD (li ++ ll)] ⟨0, [], some (cel i s w l g n)⟩) = true
    rw [e]
    rcases hi with ⟨e1, e2⟩ | ⟨hm, e2⟩
    rotate_left
    · rw [e2]
      exact List.all_eq_true.mp (k13_i s w l g n) _ hm
    rw [e2]
    subst e1
    rcases hl with ⟨e1, e2⟩ | ⟨hm, e2⟩
    rotate_left
    · rw [e2]
      exact List.all_eq_true.mp (k13_l s w g n) _ hm
    rw [e2]
    subst e1
    exact k13_ok s w g n
theorem L14 {i s w l g n : D} {li ls lw ll lg ln : List D} (hi : Item goodD inkB "ink" i li) (hs : Item (.int 2) stateB "state" s ls) (hw : Item (.str "dl") (waveB ++ [.str big]) "wave" w lw) (hl : Item (iT [0, 4]) lotB "lot" l ll) (hg : Item (.int 2) greyB "grey" g lg) (hn : Item (.int 3) numberB "number" n ln) (q : Nat) : LkF F__law_is_raised (cel i s w l g n) ⟨14, q, (li ++ ll)⟩ := by
  have e : (li ++ ll) = (li ++ (ll ++ [])) := by simp only [List.append_assoc, List.append_nil]
  refine ⟨?_, ?_, ?_⟩
  · have := hi.len
    have := hs.len
    have := hw.len
    have := hl.len
    have := hg.len
    have := hn.len
    simp only [List.length_append]
    omega
  · show nlD 9 (hdD (li ++ ll)) = true
    rw [e]
    exact (nl_due hi nl8I (nl_due hl nl8L rfl))
  · show isT (F__law_is_raised [.lam 14, hdD (li ++ ll)] ⟨0, [], some (cel i s w l g n)⟩) = true
    rw [e]
    rcases hi with ⟨e1, e2⟩ | ⟨hm, e2⟩
    rotate_left
    · rw [e2]
      exact List.all_eq_true.mp (k14_i s w l g n) _ hm
    rw [e2]
    subst e1
    rcases hl with ⟨e1, e2⟩ | ⟨hm, e2⟩
    rotate_left
    · rw [e2]
      exact List.all_eq_true.mp (k14_l s w g n) _ hm
    rw [e2]
    subst e1
    exact k14_ok s w g n
end Z
set_option Elab.async false
set_option linter.all false
set_option autoImplicit false
set_option maxRecDepth 100000
set_option maxHeartbeats 0
namespace Z
open PySem PySem.Spec PyProof.Rows L2

def En86 (ink state lot wave grey number : D) (x : Option D) : En := [some (.loc 0), some goodD, some ink, some state, some lot, some wave, some grey, some number, x, some (.loc 1), some (.loc 2), some (.loc 3), some (.loc 4), some (.loc 5), some (.loc 6), none, none]
def waveM : List D := [.non, .str "x", .str big, .tup [.str "d"], .int 5]
theorem wave_mem {n : Nat} {g x : D} (h : x ∈ List.replicate n g ++ waveM) : x ∈ List.replicate n g ++ (waveB ++ [.str big]) := by
  rcases List.mem_append.mp h with h | h
  · exact List.mem_append_left _ h
  · refine List.mem_append_right _ ?_
    unfold waveM at h
    unfold waveB
    simp only [List.mem_cons, List.not_mem_nil, or_false] at h
    rcases h with h | h | h | h | h <;> simp [h]
theorem m_ink (a b c : Int) : fArgs [fVar 0, menu_ink] [some (.loc 0), some goodD, none, none, none, none, none, none, none, none, none, none, none, none, none, none, none] (potS a b c) = .ok [.loc 0, .sq (List.replicate 5 goodD ++ inkB)] (potS a b c) := by kernel_rfl
theorem m_state (a b c : Int) (ink : D) : fArgs [fVar 0, menu_state] [some (.loc 0), some goodD, some ink, none, none, none, none, none, none, none, none, none, none, none, none, none, none] (potS a b c) = .ok [.loc 0, .sq (List.replicate 4 (.int 2) ++ stateB)] (potS a b c) := by kernel_rfl
theorem m_lot (a b c : Int) (ink state : D) : fArgs [fVar 0, menu_lot] [some (.loc 0), some goodD, some ink, some state, none, none, none, none, none, none, none, none, none, none, none, none, none] (potS a b c) = .ok [.loc 0, .sq (List.replicate 4 (iT [0, 4]) ++ lotB)] (potS a b c) := by kernel_rfl
theorem m_wave (a b c : Int) (ink state lot : D) : fArgs [fVar 0, menu_wave] [some (.loc 0), some goodD, some ink, some state, some lot, none, none, none, none, none, none, none, none, none, none, none, none] (potS a b c) = .ok [.loc 0, .sq (List.replicate 4 (.str "dl") ++ waveM)] (potS a b c) := by kernel_rfl
theorem m_grey (a b c : Int) (ink state lot wave : D) : fArgs [fVar 0, menu_grey] [some (.loc 0), some goodD, some ink, some state, some lot, some wave, none, none, none, none, none, none, none, none, none, none, none] (potS a b c) = .ok [.loc 0, .sq (List.replicate 4 (.int 2) ++ greyB)] (potS a b c) := by kernel_rfl
theorem m_number (a b c : Int) (ink state lot wave grey : D) : fArgs [fVar 0, menu_number] [some (.loc 0), some goodD, some ink, some state, some lot, some wave, some grey, none, none, none, none, none, none, none, none, none, none] (potS a b c) = .ok [.loc 0, .sq (List.replicate 4 (.int 3) ++ numberB)] (potS a b c) := by kernel_rfl
theorem right_ok : RightOk F__law_right 6 := by
  intro m a b c hm B
  have K1 : (0 : Int) ≤ 135669 ∧ (135669 : Int) < 2 ^ 20 := by decide
  have K2 : (0 : Int) ≤ 3634 ∧ (3634 : Int) < 2 ^ 20 := by decide
  have K3 : (0 : Int) ≤ 2836 ∧ (2836 : Int) < 2 ^ 20 := by decide
  have hF : F__law_of = runF 2 (gOf (runF 5 (gTake 135669 3634 2836))) := rfl
  obtain ⟨ink, a0, c0, mi, B0, ei⟩ := of_ok (items := List.replicate 5 goodD ++ inkB) K1 K2 K3 (by simp) (by decide) (by omega) B
  rw [← hF] at ei
  obtain ⟨ri, pi, hi⟩ := item_rp "ink" hgI hbI mi
  obtain ⟨state, a1, c1, ms, B1, es⟩ := of_ok (items := List.replicate 4 (.int 2) ++ stateB) K1 K2 K3 (by simp) (by decide) (by omega) B0
  rw [← hF] at es
  obtain ⟨rs, ps, hs⟩ := item_rp "state" hgS hbS ms
  obtain ⟨lot, a2, c2, ml, B2, el⟩ := of_ok (items := List.replicate 4 (iT [0, 4]) ++ lotB) K1 K2 K3 (by simp) (by decide) (by omega) B1
  rw [← hF] at el
  obtain ⟨rl, pl, hl⟩ := item_rp "lot" hgL hbL ml
  obtain ⟨wave, a3, c3, mw, B3, ew⟩ := of_ok (items := List.replicate 4 (.str "dl") ++ waveM) K1 K2 K3 (by simp) (by decide) (by omega) B2
  rw [← hF] at ew
  have mw := wave_mem mw
  obtain ⟨rw, pw, hw⟩ := item_rp "wave" hgW hbW mw
  obtain ⟨grey, a4, c4, mg, B4, eg⟩ := of_ok (items := List.replicate 4 (.int 2) ++ greyB) K1 K2 K3 (by simp) (by decide) (by omega) B3
  rw [← hF] at eg
  obtain ⟨rg, pg, hg⟩ := item_rp "grey" hgG hbG mg
  obtain ⟨number, a5, c5, mn, B5, en⟩ := of_ok (items := List.replicate 4 (.int 3) ++ numberB) K1 K2 K3 (by simp) (by decide) (by omega) B4
  rw [← hF] at en
  obtain ⟨rn, pn, hn⟩ := item_rp "number" hgN hbN mn
  refine ⟨a5, c5, ⟨B5.a0, B5.a1, B5.b0, B5.b1, B5.c0, by have := B5.c1; omega⟩, runM_ok ?_⟩
  show Glo _ g__law_right [some (.loc 0), none, none, none, none, none, none, none, none, none, none, none, none, none, none, none, none] (potS a b c)
  unfold g__law_right
  refine gl_seq (set_ok (d := goodD) (S1 := potS a b c) (by kernel_rfl)) ?_
  refine gl_draw (F := F__law_of) (m_ink a b c) ei ?_
  refine gl_draw (F := F__law_of) (m_state a0 b c0 ink) es ?_
  refine gl_draw (F := F__law_of) (m_lot a1 b c1 ink state) el ?_
  refine gl_draw (F := F__law_of) (m_wave a2 b c2 ink state lot) ew ?_
  refine gl_draw (F := F__law_of) (m_grey a3 b c3 ink state lot wave) eg ?_
  refine gl_draw (F := F__law_of) (m_number a4 b c4 ink state lot wave grey) en ?_
  refine gl_seq (par_ok (pick_ok (x := ink) (r := ri) (g := rI) rfl pi (repr_ok (x := goodD) rfl hgI)) (pick_ok (x := state) (r := rs) (g := rS) rfl ps rfl)) ?_
  refine gl_seq (par_ok (pick_ok (x := lot) (r := rl) (g := rL) rfl pl (opA_ok (ds := [iT [0, 4]]) rfl (repD_rp hgL))) (pick_ok (x := wave) (r := rw) (g := rW) rfl pw (opA_ok (ds := [.str "dl"]) rfl (repD_rp hgW)))) ?_
  refine gl_seq (par_ok (pick_ok (x := grey) (r := rg) (g := rG) rfl pg rfl) (pick_ok (x := number) (r := rn) (g := rN) rfl pn rfl)) ?_
  generalize (if ri = rI then ([] : List D) else [D.tup [D.str "ink", ink]]) = li at hi ⊢
  generalize (if rs = rS then ([] : List D) else [D.tup [D.str "state", state]]) = ls at hs ⊢
  generalize (if rl = rL then ([] : List D) else [D.tup [D.str "lot", lot]]) = ll at hl ⊢
  generalize (if rw = rW then ([] : List D) else [D.tup [D.str "wave", wave]]) = lw at hw ⊢
  generalize (if rg = rG then ([] : List D) else [D.tup [D.str "grey", grey]]) = lg at hg ⊢
  generalize (if rn = rN then ([] : List D) else [D.tup [D.str "number", number]]) = ln at hn ⊢
  obtain ⟨S0, hS0⟩ : ∃ S0, S0 = (((((((potS a5 b c5).push (.lst li)).push (.lst ls)).push (.lst ll)).push (.lst lw)).push (.lst lg)).push (.lst ln)) := ⟨_, rfl⟩
  show Glo _ _ (En86 ink state lot wave grey number none) (((((((potS a5 b c5).push (.lst li)).push (.lst ls)).push (.lst ll)).push (.lst lw)).push (.lst lg)).push (.lst ln))
  rw [← hS0]
  have hn0 : 7 ≤ S0.n := by rw [hS0]; exact Nat.le_refl 7
  have wf0 : S0.Wf := by rw [hS0]; rfl
  have g0 : S0.get 0 = some (.lst [.int a5, .int b, .int c5]) := by rw [hS0]; rfl
  have di : ∀ x, DueB 7 S0 (fVar 9) (En86 ink state lot wave grey number x) li := fun x => dueB_var rfl (by decide) (by rw [hS0]; rfl)
  have ni := hi.len
  have ds : ∀ x, DueB 7 S0 (fVar 10) (En86 ink state lot wave grey number x) ls := fun x => dueB_var rfl (by decide) (by rw [hS0]; rfl)
  have ns := hs.len
  have dl : ∀ x, DueB 7 S0 (fVar 11) (En86 ink state lot wave grey number x) ll := fun x => dueB_var rfl (by decide) (by rw [hS0]; rfl)
  have nl := hl.len
  have dw : ∀ x, DueB 7 S0 (fVar 12) (En86 ink state lot wave grey number x) lw := fun x => dueB_var rfl (by decide) (by rw [hS0]; rfl)
  have nw := hw.len
  have dg : ∀ x, DueB 7 S0 (fVar 13) (En86 ink state lot wave grey number x) lg := fun x => dueB_var rfl (by decide) (by rw [hS0]; rfl)
  have ng := hg.len
  have dn : ∀ x, DueB 7 S0 (fVar 14) (En86 ink state lot wave grey number x) ln := fun x => dueB_var rfl (by decide) (by rw [hS0]; rfl)
  have nn := hn.len
  obtain ⟨L, S1, q0, e0, k0⟩ := looks_first (i := 8) (k := 0) ((dueB_add (dueB_add (di none) (ds none) (by (try simp only [List.length_append]); omega)) (dw none) (by (try simp only [List.length_append]); omega)).at0 hn0 wf0) hn0
  refine gl_seq e0 ?_
  show Glo _ _ (En86 ink state lot wave grey number (some (.loc L))) S1
  obtain ⟨S2, q1, e1, k1⟩ := looks_app (i := 8) (k := 1) k0 rfl (by simp) ((dueB_add (dueB_add (di (some (.loc L))) (dl (some (.loc L))) (by (try simp only [List.length_append]); omega)) (dw (some (.loc L))) (by (try simp only [List.length_append]); omega)).at k0)
  refine gl_seq e1 ?_
  obtain ⟨S3, q2, e2, k2⟩ := looks_app (i := 8) (k := 2) k1 rfl (by simp) ((dueB_add (dueB_add (di (some (.loc L))) (ds (some (.loc L))) (by (try simp only [List.length_append]); omega)) (dw (some (.loc L))) (by (try simp only [List.length_append]); omega)).at k1)
  refine gl_seq e2 ?_
  obtain ⟨S4, q3, e3, k3⟩ := looks_app (i := 8) (k := 3) k2 rfl (by simp) ((dueB_add (di (some (.loc L))) (ds (some (.loc L))) (by (try simp only [List.length_append]); omega)).at k2)
  refine gl_seq e3 ?_
  obtain ⟨S5, q4, e4, k4⟩ := looks_app (i := 8) (k := 4) k3 rfl (by simp) ((dueB_add (di (some (.loc L))) (dl (some (.loc L))) (by (try simp only [List.length_append]); omega)).at k3)
  refine gl_seq e4 ?_
  obtain ⟨S6, q5, e5, k5⟩ := looks_app (i := 8) (k := 5) k4 rfl (by simp) ((dueB_add (di (some (.loc L))) (dg (some (.loc L))) (by (try simp only [List.length_append]); omega)).at k4)
  refine gl_seq e5 ?_
  obtain ⟨S7, q6, e6, k6⟩ := looks_app (i := 8) (k := 6) k5 rfl (by simp) ((di (some (.loc L))).at k5)
  refine gl_seq e6 ?_
  obtain ⟨S8, q7, e7, k7⟩ := looks_app (i := 8) (k := 7) k6 rfl (by simp) ((dueB_add (dueB_add (di (some (.loc L))) (dl (some (.loc L))) (by (try simp only [List.length_append]); omega)) (dg (some (.loc L))) (by (try simp only [List.length_append]); omega)).at k6)
  refine gl_seq e7 ?_
  obtain ⟨S9, q8, e8, k8⟩ := looks_app (i := 8) (k := 8) k7 rfl (by simp) ((dueB_add (dueB_add (di (some (.loc L))) (dl (some (.loc L))) (by (try simp only [List.length_append]); omega)) (dg (some (.loc L))) (by (try simp only [List.length_append]); omega)).at k7)
  refine gl_seq e8 ?_
  obtain ⟨S10, q9, e9, k9⟩ := looks_app (i := 8) (k := 9) k8 rfl (by simp) ((dueB_add (dueB_add (di (some (.loc L))) (dl (some (.loc L))) (by (try simp only [List.length_append]); omega)) (dg (some (.loc L))) (by (try simp only [List.length_append]); omega)).at k8)
  refine gl_seq e9 ?_
  obtain ⟨S11, q10, e10, k10⟩ := looks_app (i := 8) (k := 10) k9 rfl (by simp) ((dueB_add (dueB_add (di (some (.loc L))) (dl (some (.loc L))) (by (try simp only [List.length_append]); omega)) (dg (some (.loc L))) (by (try simp only [List.length_append]); omega)).at k9)
  refine gl_seq e10 ?_
  obtain ⟨S12, q11, e11, k11⟩ := looks_app (i := 8) (k := 11) k10 rfl (by simp) ((dueB_add (dueB_add (dueB_add (di (some (.loc L))) (dl (some (.loc L))) (by (try simp only [List.length_append]); omega)) (dg (some (.loc L))) (by (try simp only [List.length_append]); omega)) (dn (some (.loc L))) (by (try simp only [List.length_append]); omega)).at k10)
  refine gl_seq e11 ?_
  obtain ⟨S13, q12, e12, k12⟩ := looks_app (i := 8) (k := 12) k11 rfl (by simp) ((dueB_add (di (some (.loc L))) (dl (some (.loc L))) (by (try simp only [List.length_append]); omega)).at k11)
  refine gl_seq e12 ?_
  obtain ⟨S14, q13, e13, k13⟩ := looks_app (i := 8) (k := 13) k12 rfl (by simp) ((dueB_add (di (some (.loc L))) (dl (some (.loc L))) (by (try simp only [List.length_append]); omega)).at k12)
  refine gl_seq e13 ?_
  obtain ⟨S15, q14, e14, k14⟩ := looks_app (i := 8) (k := 14) k13 rfl (by simp) ((dueB_add (di (some (.loc L))) (dl (some (.loc L))) (by (try simp only [List.length_append]); omega)).at k13)
  refine gl_seq e14 ?_
  have facts := (lkF_snoc (lkF_snoc (lkF_snoc (lkF_snoc (lkF_snoc (lkF_snoc (lkF_snoc (lkF_snoc (lkF_snoc (lkF_snoc (lkF_snoc (lkF_snoc (lkF_snoc (lkF_snoc (lkF_one (L0 hi hs hw hl hg hn q0)) (L1 hi hs hw hl hg hn q1)) (L2 hi hs hw hl hg hn q2)) (L3 hi hs hw hl hg hn q3)) (L4 hi hs hw hl hg hn q4)) (L5 hi hs hw hl hg hn q5)) (L6 hi hs hw hl hg hn q6)) (L7 hi hs hw hl hg hn q7)) (L8 hi hs hw hl hg hn q8)) (L9 hi hs hw hl hg hn q9)) (L10 hi hs hw hl hg hn q10)) (L11 hi hs hw hl hg hn q11)) (L12 hi hs hw hl hg hn q12)) (L13 hi hs hw hl hg hn q13)) (L14 hi hs hw hl hg hn q14))
  have hv : ∀ p ∈ cel ink state wave lot grey number, nlD 9 p.2 = true := by
    intro p hp
    unfold cel at hp
    simp only [List.mem_cons, List.not_mem_nil, or_false] at hp
    rcases hp with rfl | rfl | rfl | rfl | rfl | rfl
    · exact nl_all hi (by kernel_rfl) nl9I
    · exact nl_all hs (by kernel_rfl) nl9S
    · exact nl_all hw (by kernel_rfl) nl9W
    · exact nl_all hl (by kernel_rfl) nl9L
    · exact nl_all hg (by kernel_rfl) nl9G
    · exact nl_all hn (by kernel_rfl) nl9N
  obtain ⟨SF, eF, kF, wF⟩ := looks_all (a := 15) (b := 16) (c := 8) (names := [("ink", 2), ("state", 3), ("wave", 5), ("lot", 4), ("grey", 6), ("number", 7)]) (vals := cel ink state wave lot grey number) (env := En86 ink state lot wave grey number (some (.loc L))) rfl k14.at_ (by simp) (fun _ _ => rfl) hv (fun _ _ => rfl) (fun _ _ => rfl) (k14.ok facts) k14.wf
  exact gl_ret eF ⟨wF, kF.get ((k14.base 0 (by decide)).trans g0)⟩
theorem law_all {xs : List Int} (hl : xs.length < 1000) : ∃ S', F_law [.sq (xs.map .int)] ⟨0, [], none⟩ = .ok (.bl true) S' :=
  law_ok (F := F__law_right) (dm := 6) (laps := 6) (k1 := 3534) (k2 := 8408) (k3 := 93619) (k4 := 13677) (k5 := 2934) right_ok (by decide) (by decide) (by decide) (by decide) (by decide) (by decide) hl
end Z
set_option Elab.async false
set_option linter.all false
set_option autoImplicit false
set_option maxRecDepth 100000
set_option maxHeartbeats 0
namespace Z
open PySem PySem.Spec PyProof.Rows L2
def mkD (x : Str) (i : Nat) : He.DefD := ⟨(x, none), x, x, defArgs (top i), defBody (top i), defScope (top i), [], []⟩
def fnL : List He.DefD := ([mkD "is_integer" 9, mkD "is_between" 10, mkD "are_between" 11, mkD "is_ascending" 12, mkD "is_ink" 17, mkD "check_ink" 18, mkD "check_state" 19, mkD "is_lot_of" 20, mkD "check_lot" 21, mkD "check_grey" 22, mkD "greys_by" 23, mkD "greys_of" 24, mkD "states_by" 25, mkD "all_of" 26, mkD "does_show" 27, mkD "is_wave" 34, mkD "check_wave" 35, mkD "row_of" 36, mkD "state_by" 37, mkD "lot_by" 38, mkD "nexts_of" 39, mkD "state_behind" 40, mkD "lot_behind" 41, mkD "shown_by" 42, mkD "rests_of" 43] : List He.DefD) ++ ([mkD "settles" 44, mkD "is_closed" 49, mkD "is_book" 50, mkD "check_wish" 51, mkD "ways_of" 52, mkD "lots_from" 53, mkD "best_of" 54, mkD "wish_told" 55, mkD "does_bar" 56, mkD "shows_wish" 57, mkD "shortest_wish" 58, mkD "shows_shortest" 59, mkD "wish_count" 60, mkD "wishes" 61, mkD "is_steady" 62, mkD "_law_pot" 64, mkD "_law_take" 65, mkD "_law_of" 66, mkD "_law_cells" 67, mkD "_law_caught" 68, mkD "_law_is_raised" 69, mkD "_law_right" 70, mkD "law" 71] : List He.DefD)
def faL : List He.Fa := ([.glo "is_integer", .glo "is_between", .glo "are_between", .glo "is_ascending", .glo "is_ink", .glo "check_ink", .glo "check_state", .glo "is_lot_of", .glo "check_lot", .glo "check_grey", .glo "greys_by", .glo "greys_of", .glo "states_by", .glo "all_of", .glo "does_show", .glo "is_wave", .glo "check_wave", .glo "row_of", .glo "state_by", .glo "lot_by", .glo "nexts_of", .glo "state_behind", .glo "lot_behind", .glo "shown_by", .glo "rests_of"] : List He.Fa) ++ ([.glo "settles", .glo "is_closed", .glo "is_book", .glo "check_wish", .glo "ways_of", .glo "lots_from", .glo "best_of", .glo "wish_told", .glo "does_bar", .glo "shows_wish", .glo "shortest_wish", .glo "shows_shortest", .glo "wish_count", .glo "wishes", .glo "is_steady", .glo "_law_pot", .glo "_law_take", .glo "_law_of", .glo "_law_cells", .glo "_law_caught", .glo "_law_is_raised", .glo "_law_right", .glo "law", .glo "InkError", .glo "BadGrey"] : List He.Fa) ++ ([.glo "BadInk", .glo "BadLot", .glo "BadNumber", .glo "BadState", .glo "BadWave", .free "len", .free "all", .free "any", .free "sum", .free "max", .free "min", .free "abs", .free "int", .free "tuple", .free "list", .free "sorted", .free "set", .free "repr", .free "isinstance", .free "range", .free "enumerate", .free "zip", .free "bool", .free "str", .free "dict"] : List He.Fa) ++ ([.free "super", .int "MOST_STATES" 10, .int "MOST_GREY" 7, .int "FOUR" 4, .str "DARK" "d", .str "LIGHT" "l", .str "REST" "r", .int "MOST_PULSES" 5000, .str "WAVE" "wave", .str "BARRED" "barred", .int "MOST_NUMBER" 30] : List He.Fa)
def tfL : List He.Defn := [("_law_right", none)]
def clsL : List Str := ["InkError", "BadGrey", "BadInk", "BadLot", "BadNumber", "BadState", "BadWave"]
def exL (K : PySem.W.Frag) : Bool := (clsB K "InkError" clsL && iniB K "InkError" "/claim/cut.py") && tupB K "PULSES" [.s "d", .s "l", .s "r"]
def inS : Stmt → Stmt
  | .ClassDef _ _ _ (s :: _) _ _ _ _ _ _ _ => s
  | s => s
def iniT : Stmt := inS (top 1)
def ivL : IniV := some (("__init__" : Str), ("InkError.__init__" : Str), defArgs iniT, FuncBody.stmts (defBody iniT), defScope iniT, mainGlobals, (["__class__"] : List Str), builtinsNs)
abbrev RowL : PySem.W.OpenRow := PySem.W.OpenLaw.row PySem.Challenge.rw_noghostleft_k86_what_inks_and_wishes_ref
abbrev hkL : PySem.W.Hook := hookZ 5 faL fnL tfL exL "InkError" ivL
def obL (s : PySem.W.SharedT) : AlZ := obsZ 5 faL fnL tfL exL "InkError" (HandSHeadRun.getT s)
theorem obL_eq (s : PySem.W.SharedT) : obL s = hkL.obs s.abs := obsZ_eq (HandSHeadRun.getT_eq s)
def looseL : List Str := (["InkError", "BadGrey", "BadInk", "BadLot", "BadNumber", "BadState", "BadWave", "is_integer", "is_between", "are_between", "is_ascending", "MOST_STATES", "MOST_GREY", "FOUR", "is_ink", "check_ink", "check_state", "is_lot_of", "check_lot", "check_grey", "greys_by", "greys_of", "states_by", "all_of", "does_show", "DARK", "LIGHT", "REST", "PULSES", "MOST_PULSES"] : List Str) ++ (["is_wave", "check_wave", "row_of", "state_by", "lot_by", "nexts_of", "state_behind", "lot_behind", "shown_by", "rests_of", "settles", "WAVE", "BARRED", "MOST_NUMBER", "is_closed", "is_book", "check_wish", "ways_of", "lots_from", "best_of", "wish_told", "does_bar", "shows_wish", "shortest_wish", "shows_shortest", "wish_count", "wishes", "is_steady", "_law_pot", "_law_take"] : List Str) ++ (["_law_of", "_law_cells", "_law_caught", "_law_is_raised", "_law_right"] : List Str)
theorem runL (w : World) : HandSHeadRun.RunEq RowL (PySem.W.view RowL.prog [71]) hkL obL 20000 looseL w := by
  intro os
  kernel_rfl
end Z
set_option Elab.async false
set_option linter.all false
set_option autoImplicit false
set_option maxRecDepth 100000
set_option maxHeartbeats 0
namespace Z
open PySem PySem.Spec PyProof.Rows L2
def TL (K : PySem.W.Frag) : List (Addr × Str) := [((He.cT K ("_law_right", none)).2, ("_law_right" ++ ".<locals>." : Str) ++ "<lambda>")]
def WL (K : PySem.W.Frag) (cl : List (Str × Addr)) (cvl : Str → Option V) : Wd := { K := K, ca := caOf K "InkError" clsL, T := TL K, lam := lamAt, cl := cl, cvl := cvl }
section
variable {w : World} {mg : Str → Option Value} {h : Heap} {K : PySem.W.Frag}
theorem fact_at (c : He.SaysX faL fnL [] tfL exL w h K) (i : Nat) {f : He.Fa} (e : faL[i]? = some f) : f.ok K = true := c.t.d.fact i e
theorem glo_at (kin : K.In h) (G : h.Ns mainGlobals mg) (c : He.SaysX faL fnL [] tfL exL w h K) (i : Nat) {x : Str} (e : faL[i]? = some (.glo x)) : mg x = some (.ref (He.ga K x)) := He.glo_ok kin G (fact_at c i e)
theorem fn_at (kin : K.In h) (G : h.Ns mainGlobals mg) (c : He.SaysX faL fnL [] tfL exL w h K) (i j : Nat) {x : Str} {n : Nat} (e1 : fnL[i]? = some (mkD x n)) (e2 : faL[j]? = some (.glo x)) : ∃ f fd, FunD K x x (defArgs (top n)) (defBody (top n)) (defScope (top n)) [] [] f fd ∧ mg x = some (.ref f) := by
  obtain ⟨fd, F⟩ := c.t.d.def_ i e1
  exact ⟨_, fd, F, glo_at kin G c j e2⟩
theorem free_all (kin : K.In h) (G : h.Ns mainGlobals mg) (c : He.SaysX faL fnL [] tfL exL w h K) : ∀ x ∈ bNs, mg x = none := by
  intro x hx
  unfold bNs at hx
  simp only [List.mem_cons, List.not_mem_nil, or_false] at hx
  rcases hx with rfl | rfl | rfl | rfl | rfl | rfl | rfl | rfl | rfl | rfl | rfl | rfl | rfl | rfl | rfl | rfl | rfl | rfl | rfl | rfl
  · exact He.free_ok kin G (fact_at c 55 (f := .free "len") rfl)
  · exact He.free_ok kin G (fact_at c 56 (f := .free "all") rfl)
  · exact He.free_ok kin G (fact_at c 57 (f := .free "any") rfl)
  · exact He.free_ok kin G (fact_at c 58 (f := .free "sum") rfl)
  · exact He.free_ok kin G (fact_at c 59 (f := .free "max") rfl)
  · exact He.free_ok kin G (fact_at c 60 (f := .free "min") rfl)
  · exact He.free_ok kin G (fact_at c 61 (f := .free "abs") rfl)
  · exact He.free_ok kin G (fact_at c 62 (f := .free "int") rfl)
  · exact He.free_ok kin G (fact_at c 63 (f := .free "tuple") rfl)
  · exact He.free_ok kin G (fact_at c 64 (f := .free "list") rfl)
  · exact He.free_ok kin G (fact_at c 65 (f := .free "sorted") rfl)
  · exact He.free_ok kin G (fact_at c 66 (f := .free "set") rfl)
  · exact He.free_ok kin G (fact_at c 67 (f := .free "repr") rfl)
  · exact He.free_ok kin G (fact_at c 68 (f := .free "isinstance") rfl)
  · exact He.free_ok kin G (fact_at c 69 (f := .free "range") rfl)
  · exact He.free_ok kin G (fact_at c 70 (f := .free "enumerate") rfl)
  · exact He.free_ok kin G (fact_at c 71 (f := .free "zip") rfl)
  · exact He.free_ok kin G (fact_at c 72 (f := .free "bool") rfl)
  · exact He.free_ok kin G (fact_at c 73 (f := .free "str") rfl)
  · exact He.free_ok kin G (fact_at c 74 (f := .free "dict") rfl)
theorem ex_all (c : He.SaysX faL fnL [] tfL exL w h K) : ClsF K "InkError" clsL ∧ iniB K "InkError" "/claim/cut.py" = true ∧ tupB K "PULSES" [.s "d", .s "l", .s "r"] = true := by
  have e := c.more
  unfold exL at e
  obtain ⟨e, t0⟩ := He.ba e
  obtain ⟨e1, e2⟩ := He.ba e
  exact ⟨clsB_ok e1, e2, t0⟩
theorem ini_body : ∃ p0 p1 p2 p3 p4 p5 p6 p7 p8 p9, defBody iniT = iniBody p0 p1 p2 p3 p4 p5 p6 p7 p8 p9 ∧ (p2.endLine == p4.line) = true := ⟨_, _, _, _, _, _, _, _, _, _, rfl, rfl⟩
theorem iniS : IniS (defScope iniT) := ⟨rfl, rfl, rfl, by decide +kernel, by decide +kernel, rfl, rfl, rfl, rfl⟩
theorem ini_all {base : Heap} (cl : List (Str × Addr)) (cvl : Str → Option V) (kin : K.In h) (G : h.Ns mainGlobals mg) (c : He.SaysX faL fnL [] tfL exL w h K) (io : iniObs "InkError" K = ivL) :
    ∃ fd, FnOk RowL.prog w K mg base CX0 1 (iniAt K "InkError") fd ["self", "value"] (spI K (He.ga K "InkError")) ∧ Binds K fd ["self", "value"] [] := by
  obtain ⟨p0, p1, p2, p3, p4, p5, p6, p7, p8, p9, hb, hl⟩ := ini_body
  have ib := (ex_all c).2.1
  unfold ivL at io
  rw [hb] at io
  exact init_of (W := WL K cl cvl) (b := "InkError") io ib iniS (by rfl) (by rfl) hl (He.free_ok kin G (fact_at c 75 (f := .free "super") rfl)) (by kernel_rfl) fun _ _ _ _ _ _ _ u v => rfl
theorem am_all {base : Heap} (cl : List (Str × Addr)) (cvl : Str → Option V) (kin : K.In h) (G : h.Ns mainGlobals mg) (c : He.SaysX faL fnL [] tfL exL w h K) (io : iniObs "InkError" K = ivL) : Am (WL K cl cvl) RowL.prog w mg base where
  fr := free_all kin G c
  fn_is_integer := fn_at kin G c 0 0 rfl rfl
  fn_is_between := fn_at kin G c 1 1 rfl rfl
  fn_are_between := fn_at kin G c 2 2 rfl rfl
  fn_is_ascending := fn_at kin G c 3 3 rfl rfl
  fn_is_ink := fn_at kin G c 4 4 rfl rfl
  fn_check_ink := fn_at kin G c 5 5 rfl rfl
  fn_check_state := fn_at kin G c 6 6 rfl rfl
  fn_is_lot_of := fn_at kin G c 7 7 rfl rfl
  fn_check_lot := fn_at kin G c 8 8 rfl rfl
  fn_check_grey := fn_at kin G c 9 9 rfl rfl
  fn_greys_by := fn_at kin G c 10 10 rfl rfl
  fn_greys_of := fn_at kin G c 11 11 rfl rfl
  fn_states_by := fn_at kin G c 12 12 rfl rfl
  fn_all_of := fn_at kin G c 13 13 rfl rfl
  fn_does_show := fn_at kin G c 14 14 rfl rfl
  fn_is_wave := fn_at kin G c 15 15 rfl rfl
  fn_check_wave := fn_at kin G c 16 16 rfl rfl
  fn_row_of := fn_at kin G c 17 17 rfl rfl
  fn_state_by := fn_at kin G c 18 18 rfl rfl
  fn_lot_by := fn_at kin G c 19 19 rfl rfl
  fn_nexts_of := fn_at kin G c 20 20 rfl rfl
  fn_state_behind := fn_at kin G c 21 21 rfl rfl
  fn_lot_behind := fn_at kin G c 22 22 rfl rfl
  fn_shown_by := fn_at kin G c 23 23 rfl rfl
  fn_rests_of := fn_at kin G c 24 24 rfl rfl
  fn_settles := fn_at kin G c 25 25 rfl rfl
  fn_is_closed := fn_at kin G c 26 26 rfl rfl
  fn_is_book := fn_at kin G c 27 27 rfl rfl
  fn_check_wish := fn_at kin G c 28 28 rfl rfl
  fn_ways_of := fn_at kin G c 29 29 rfl rfl
  fn_lots_from := fn_at kin G c 30 30 rfl rfl
  fn_best_of := fn_at kin G c 31 31 rfl rfl
  fn_wish_told := fn_at kin G c 32 32 rfl rfl
  fn_does_bar := fn_at kin G c 33 33 rfl rfl
  fn_shows_wish := fn_at kin G c 34 34 rfl rfl
  fn_shortest_wish := fn_at kin G c 35 35 rfl rfl
  fn_shows_shortest := fn_at kin G c 36 36 rfl rfl
  fn_wish_count := fn_at kin G c 37 37 rfl rfl
  fn_wishes := fn_at kin G c 38 38 rfl rfl
  fn_is_steady := fn_at kin G c 39 39 rfl rfl
  fn__law_pot := fn_at kin G c 40 40 rfl rfl
  fn__law_take := fn_at kin G c 41 41 rfl rfl
  fn__law_of := fn_at kin G c 42 42 rfl rfl
  fn__law_cells := fn_at kin G c 43 43 rfl rfl
  fn__law_caught := fn_at kin G c 44 44 rfl rfl
  fn__law_is_raised := fn_at kin G c 45 45 rfl rfl
  fn__law_right := fn_at kin G c 46 46 rfl rfl
  fn_law := fn_at kin G c 47 47 rfl rfl
  c_MOST_STATES := glc_int (W := WL K cl cvl) kin G (fact_at c 76 (f := .int "MOST_STATES" 10) rfl)
  c_MOST_GREY := glc_int (W := WL K cl cvl) kin G (fact_at c 77 (f := .int "MOST_GREY" 7) rfl)
  c_FOUR := glc_int (W := WL K cl cvl) kin G (fact_at c 78 (f := .int "FOUR" 4) rfl)
  c_DARK := glc_str (W := WL K cl cvl) kin G (fact_at c 79 (f := .str "DARK" "d") rfl)
  c_LIGHT := glc_str (W := WL K cl cvl) kin G (fact_at c 80 (f := .str "LIGHT" "l") rfl)
  c_REST := glc_str (W := WL K cl cvl) kin G (fact_at c 81 (f := .str "REST" "r") rfl)
  c_PULSES := glc_tup (W := WL K cl cvl) kin G (ex_all c).2.2
  c_MOST_PULSES := glc_int (W := WL K cl cvl) kin G (fact_at c 82 (f := .int "MOST_PULSES" 5000) rfl)
  c_WAVE := glc_str (W := WL K cl cvl) kin G (fact_at c 83 (f := .str "WAVE" "wave") rfl)
  c_BARRED := glc_str (W := WL K cl cvl) kin G (fact_at c 84 (f := .str "BARRED" "barred") rfl)
  c_MOST_NUMBER := glc_int (W := WL K cl cvl) kin G (fact_at c 85 (f := .int "MOST_NUMBER" 30) rfl)
  x_InkError := raiC_of (W := WL K cl cvl) (b := "InkError") (names := clsL) (ex_all c).1 rfl rfl (glo_at kin G c 48 rfl) (ini_all cl cvl kin G c io)
  m_InkError := glo_at kin G c 48 rfl
  x_BadGrey := raiC_of (W := WL K cl cvl) (b := "InkError") (names := clsL) (ex_all c).1 rfl rfl (glo_at kin G c 49 rfl) (ini_all cl cvl kin G c io)
  m_BadGrey := glo_at kin G c 49 rfl
  k_BadGrey := ClsF.isk (W := WL K cl cvl) (b := "InkError") (names := clsL) (ex_all c).1 rfl (by decide +kernel) 1 (by decide) (by decide +kernel)
  x_BadInk := raiC_of (W := WL K cl cvl) (b := "InkError") (names := clsL) (ex_all c).1 rfl rfl (glo_at kin G c 50 rfl) (ini_all cl cvl kin G c io)
  m_BadInk := glo_at kin G c 50 rfl
  k_BadInk := ClsF.isk (W := WL K cl cvl) (b := "InkError") (names := clsL) (ex_all c).1 rfl (by decide +kernel) 2 (by decide) (by decide +kernel)
  x_BadLot := raiC_of (W := WL K cl cvl) (b := "InkError") (names := clsL) (ex_all c).1 rfl rfl (glo_at kin G c 51 rfl) (ini_all cl cvl kin G c io)
  m_BadLot := glo_at kin G c 51 rfl
  k_BadLot := ClsF.isk (W := WL K cl cvl) (b := "InkError") (names := clsL) (ex_all c).1 rfl (by decide +kernel) 3 (by decide) (by decide +kernel)
  x_BadNumber := raiC_of (W := WL K cl cvl) (b := "InkError") (names := clsL) (ex_all c).1 rfl rfl (glo_at kin G c 52 rfl) (ini_all cl cvl kin G c io)
  m_BadNumber := glo_at kin G c 52 rfl
  k_BadNumber := ClsF.isk (W := WL K cl cvl) (b := "InkError") (names := clsL) (ex_all c).1 rfl (by decide +kernel) 4 (by decide) (by decide +kernel)
  x_BadState := raiC_of (W := WL K cl cvl) (b := "InkError") (names := clsL) (ex_all c).1 rfl rfl (glo_at kin G c 53 rfl) (ini_all cl cvl kin G c io)
  m_BadState := glo_at kin G c 53 rfl
  k_BadState := ClsF.isk (W := WL K cl cvl) (b := "InkError") (names := clsL) (ex_all c).1 rfl (by decide +kernel) 5 (by decide) (by decide +kernel)
  x_BadWave := raiC_of (W := WL K cl cvl) (b := "InkError") (names := clsL) (ex_all c).1 rfl rfl (glo_at kin G c 54 rfl) (ini_all cl cvl kin G c io)
  m_BadWave := glo_at kin G c 54 rfl
  k_BadWave := ClsF.isk (W := WL K cl cvl) (b := "InkError") (names := clsL) (ex_all c).1 rfl (by decide +kernel) 6 (by decide) (by decide +kernel)
  xc := fun k => ClsF.xcA (W := WL K cl cvl) (ex_all c).1 rfl k
  exm := fun k hk => ClsF.exmA (W := WL K cl cvl) (ex_all c).1 rfl rfl k (of_decide_eq_true hk)
  lam := fun _ => rfl
theorem mk_all {base : Heap} (cl : List (Str × Addr)) (cvl : Str → Option V) (kin : K.In h) (G : h.Ns mainGlobals mg) (c : He.SaysX faL fnL [] tfL exL w h K) (tb : LamX.TabB base mg (He.cT K ("_law_right", none)).1 (He.cT K ("_law_right", none)).2) :
    ∃ f fd c P1, FunD (WL K cl cvl).K "_law_right" "_law_right" (defArgs (top 70)) (defBody (top 70)) (defScope (top 70)) [] [] f fd ∧ mg "_law_right" = some (.ref f) ∧ codeAt (WL K cl cvl).K f = some (.ref c) ∧ MakF (WL K cl cvl) mg base c P1 (("_law_right" ++ ".<locals>." : Str) ++ "<lambda>") := by
  obtain ⟨fd, F⟩ := c.t.d.def_ 46 (d := mkD "_law_right" 70) rfl
  have F0 := F
  obtain ⟨oc, od, dV, kV, doc, pm, an, cdv, ct, osl, e, lk, hcd, _, _⟩ := F.ex
  obtain ⟨cc, ec⟩ := He.codeIn_ref hcd
  have e2 : fd.code = .ref cc := by rw [e]; exact ec
  have e3 : He.codeOf K ("_law_right", none) = cc := He.codeOf_eq lk e2
  have e4 : (He.cT K ("_law_right", none)).1 = cc := e3
  rw [e4] at tb
  refine ⟨_, fd, cc, (He.cT K ("_law_right", none)).2, F0, glo_at kin G c 46 rfl, ?_, tb, List.mem_singleton.mpr rfl, fun p hp _ => ?_⟩
  · show (match K.lookup _ with
      | some ⟨_, _, .func fd, _⟩ => some fd.code
      | _ => none) = _
    rw [lk]
    exact congrArg some e2
  · rw [List.mem_singleton.mp hp]
end
theorem law_at {w : World} {mg : Str → Option Value} {fa : Addr} {h : Heap} (Y : hkL.says w h) (G : h.Ns mainGlobals mg) (hm : mg "law" = some (.ref fa)) : LawZ PySem.Challenge.rw_noghostleft_k86_what_inks_and_wishes_ref w mg fa h 63 := by
  obtain ⟨K, kin, c, io⟩ := Y
  have W0 := WL K [] fun _ => none
  refine ⟨K, 13, [He.cT K ("_law_right", none)], spF (WL K [] fun _ => none) 1 F_law, kin, ⟨⟨rfl, by decide +kernel, by decide +kernel⟩, rfl⟩, fun p hp => ?_, fun p hp => ?_, fun p hp => ?_, fun H a ns hl hT hS => ?_, fun base hK hns tb => ?_⟩
  · rw [List.mem_singleton.mp hp]; exact c.empty _ (List.mem_singleton.mpr rfl)
  · rw [List.mem_singleton.mp hp]; exact c.out _ (List.mem_singleton.mpr rfl)
  · rw [List.mem_singleton.mp hp]; exact PySem.W.codeHd_of_K kin (c.hd _ (List.mem_singleton.mpr rfl))
  · obtain ⟨S', e⟩ := law_all (xs := ns) (by omega)
    refine ⟨fun _ => 0, ⟨0, [], none⟩, [.sq (ns.map .int)], rfl, ⟨fun j k hj => absurd hj (Nat.not_lt_zero _), fun k hk => absurd hk (Nat.not_lt_zero _), fun p hp => ?_, fun _ z => by cases z⟩, ?_, ?_⟩
    · rw [List.mem_singleton.mp hp]
      exact ⟨#[], hT _ (List.mem_singleton.mpr rfl), trivial, fun _ _ z => by cases z⟩
    · have off : Off (fun _ => 0) 0 a := fun k hk => absurd hk (Nat.not_lt_zero _)
      unfold RelDs
      refine ⟨.ref a, [], rfl, ?_, by unfold RelDs; rfl⟩
      unfold RelD
      refine ⟨a, ns.map V.int, rfl, ?_, intsD_rel ns⟩
      rcases hS with hS | hS
      · exact .inl ⟨hS, off⟩
      · exact .inr hS
    · rw [e]
      intro H' m' v _ _ r
      unfold RelD at r
      exact r
  · obtain ⟨f, fd, ps, F, hm2, _, b⟩ := (d_law (W := WL K [] fun _ => none) (P := RowL.prog) (w := w) (mg := mg) (base := base) (fun cl cvl base => am_all cl cvl kin G c io) (mk_all [] (fun _ => none) kin G c (tb _ (List.mem_singleton.mpr rfl)))).ok
    have ef := hm2.symm.trans hm
    cases ef
    exact ⟨fd, ps, F, b⟩
end Z
set_option Elab.async false
set_option linter.all false
open PySem PySem.W PySem.Calls PyProof.Rows
set_option maxRecDepth 100000 in
set_option maxHeartbeats 0 in
theorem PySem.Challenge.cw_noghostleft_k86_what_inks_and_wishes_ref_holds : PySem.Challenge.rw_noghostleft_k86_what_inks_and_wishes_ref.Holds := by
  w_on; o_law
  refine HandSHeadRun.head_any (r := OpenLaw.row PySem.Challenge.rw_noghostleft_k86_what_inks_and_wishes_ref) (q := view (OpenLaw.row PySem.Challenge.rw_noghostleft_k86_what_inks_and_wishes_ref).prog [71]) (H := Z.hkL) (ob := Z.obL) (M := 20000) (loose := Z.looseL) (d := HandSHeadRun.topDef (OpenLaw.row PySem.Challenge.rw_noghostleft_k86_what_inks_and_wishes_ref).prog 71) (kwd := []) Z.obL_eq (by kernel_rfl) (fun s => by kernel_rfl) Z.runL (by kernel_rfl) (by kernel_rfl) (by kernel_rfl) (by rfl) (by first | assumption | decide +kernel) (by decide +kernel) ⟨rfl, rfl, rfl, rfl, rfl, by decide +kernel⟩ ?hw ?hc
  case hw => w_witness2
  case hc =>
    refine Z.walk_z (l := PySem.Challenge.rw_noghostleft_k86_what_inks_and_wishes_ref) (n := 63) rfl (by decide) (by kernel_rfl) fun w mg fa h Y G hm => ?_
    have e : (HandSHeadRun.topDef (OpenLaw.row PySem.Challenge.rw_noghostleft_k86_what_inks_and_wishes_ref).prog 71).name = ("law" : PySem.Str) := by kernel_rfl
    rw [e] at hm
    exact Z.law_at Y G hm
