import PyProof.Rows.All
import Wide.All
import OpenK.AllK
import Wide.FinOn
import HandS.ForMost
import HandS.Exc
import HandS.ExcOwn
import HandS.WordsExc
import HandS.TryMany
import HandS.Star
import HandS.Defaults
import HandS.Property
import KE.DataEq
import KE.DataCmp
import KE.SortData
import KE.SortKeyHeap
import KE.DataAny
import KE.DataIsa
import KE.KDictKeyed
import HandS.Nested
import HandS.EndTab
import HandS.TupAny
import HandS.TupMul
import HandS.Deep
import HandS.Rev
import HandS.Zip
import KE.GoesEnum
import KE.KDictCopyH
import HandS.IsInst
import HandS.Conv
import HandS.CallSlots
import KE.KDictSum
import HandS.New0
import HandS.RaiseMore
import HandS.SortKw
import HandS.HeadHook4
import HandS.Head0
import HandS.Head1
import HandS.Head2
import HandS.HeadEnd
import HandS.MakeKwOnly
import HandS.DictComp
import KE.KDictDisplayH
import KE.KDictPairs
import KE.KDictOf
import KE.KFmtOwn
import HandS.OwnEq
import HandS.HeadWalk
import HandS.DictEq
import PyProof.FactsAll.list_0
import PyProof.FactsAll.list_3
import PyProof.FactsAll.dict_0
import PyProof.FactsAll.dict_3
import KE.KNestM
import HandS.ExcField
import PyProof.ExcBaseAll.ValueError
import KE.KExcSuper
import HandS.ExcInit
import KE.KStateDown
import PySem.Challenge.RW_laidahead_k36_refused
set_option Elab.async false
set_option linter.all false
set_option maxRecDepth 100000
set_option maxHeartbeats 4000000
/-! MPA: deep values D, how they lie in HandS's abstract heap, the state's growth. -/
namespace MP
open PySem PySem.Spec PyProof.Rows L2

/-- a value with all that lies in it; ref: an object that this run may change -/
inductive D where
  | non | bl (b : Bool) | int (i : Int) | str (x : Str)
  | tup (xs : List D) | lst (xs : List D) | dct (kvs : List (D × D))
  | obj (c : Str) (fs : List (Str × D))
  | ref (a : Nat)
  | scr (ns : List Int)
deriving Inhabited

/-- an object that may be changed; fz: it was given away, and is a value from then on -/
inductive AO where
  | lst (xs : List D)
  | dct (kvs : List (D × D))
  | ins (c : Str) (fs : List (Str × D))
  | fz (d : D)
abbrev AH := List AO

/-- a pair as dict() is given within a tuple: a use and a number -/
def isUP : D → Bool
  | .tup [.tup [_, .str _, _], .int _] => true
  | _ => false
/-- nothing but such pairs -/
def allUP (ds : List D) : Bool := ds.all isUP
def allK (f : D → Option NestedKey) : List D → Option (List NestedKey)
  | [] => some []
  | d :: ds => match f d with
    | some k => match allK f ds with
      | some ks => some (k :: ks)
      | none => none
    | none => none
/-- a value as a key, tuples nested n deep at most -/
def keyN : Nat → D → Option NestedKey
  | 0, d => match d with
    | .non => some .none
    | .bl b => some (.num (if b = true then 1 else 0))
    | .int i => some (.num i)
    | .str x => some (.text x)
    | _ => none
  | n + 1, d => match d with
    | .non => some .none
    | .bl b => some (.num (if b = true then 1 else 0))
    | .int i => some (.num i)
    | .str x => some (.text x)
    | .tup xs => match allK (keyN n) xs with
      | some ks => some (.tup ks)
      | none => none
    | _ => none
abbrev keyOf : D → Option NestedKey := keyN 8

/-- no key twice -/
def KNd (kvs : List (D × D)) : Prop := (kvs.map fun p => keyOf p.1).Nodup
/-- where the changeable objects lie; what else is no value; which are values by now -/
structure Rho where
  to : Nat → Addr
  ban : Addr → Prop
  fz : Nat → Prop
/-- own classes: where they lie, which are known -/
structure Gm where
  ad : Str → Addr
  ok : Str → Prop
  T : List NdefX.NTab
instance : CoeFun Gm (fun _ => Str → Addr) := ⟨Gm.ad⟩
/-- an address that is none of these -/
def Free (n : Nat) (ρ : Rho) (a : Addr) : Prop := ¬ ρ.ban a ∧ ∀ i, i < n → ¬ ρ.fz i → a ≠ ρ.to i
/-- the tables of code objects: each code object there is known, with the name of its place -/
def TabF (T : List NdefX.NTab) (n : Nat) (ρ : Rho) (H : Hp) : Prop := ∀ p ∈ T, ∃ ps : Array Value, H p.1 = some (.tbl ps) ∧ Free n ρ p.1 ∧ TriplesOk ps.toList ∧ ∀ (pos : Pos) (cv : Value), codeAmong pos ps.toList = some cv → ∃ c, cv = .ref c ∧ H c = some (LamX.CodeO c (p.2 pos.line pos.col)) ∧ Free n ρ c
/-- all that is free is kept -/
abbrev KeepF (n : Nat) (ρ : Rho) (H : Hp) (n' : Nat) (ρ' : Rho) (H' : Hp) : Prop := ∀ b o, H b = some o → Free n ρ b → H' b = some o ∧ Free n' ρ' b
theorem TabF.keep {T : List NdefX.NTab} {n n' : Nat} {ρ ρ' : Rho} {H H' : Hp} (t : TabF T n ρ H) (k : KeepF n ρ H n' ρ' H') : TabF T n' ρ' H' := fun p hp => by
  obtain ⟨ps, h1, h2, h3, h4⟩ := t p hp
  obtain ⟨g1, g2⟩ := k _ _ h1 h2
  refine ⟨ps, g1, g2, h3, fun pos cv hc => ?_⟩
  obtain ⟨c, e1, e2, e3⟩ := h4 pos cv hc
  obtain ⟨g3, g4⟩ := k _ _ e2 e3
  exact ⟨c, e1, g3, g4⟩
/-- no table of code objects -/
def NTb (o : HO) : Prop := ∀ ps, o ≠ .tbl ps
/-- the script: nobody changes it -/
def ScrAt (K : PySem.W.Frag) (n : Nat) (ρ : Rho) (H : Hp) (a : Addr) (xs : List V) : Prop := (Rd H a (.lst xs) ∧ Free n ρ a) ∨ ∃ (o : Obj) (its : Array Value) (z : Nat), K.lookup a = some o ∧ o.cls = .type "list" ∧ o.dict = none ∧ o.data = .seq its z ∧ its.size ≤ sizeLine ∧ Vals xs its.toList
theorem ScrAt.sq {K : PySem.W.Frag} {n : Nat} {ρ : Rho} {H : Hp} {a : Addr} {xs : List V} (s : ScrAt K n ρ H a xs) : SqL K H a xs := s.elim (fun ⟨h, _⟩ => .inl h) .inr
theorem ScrAt.keep {K : PySem.W.Frag} {n n' : Nat} {ρ ρ' : Rho} {H H' : Hp} {a : Addr} {xs : List V} (s : ScrAt K n ρ H a xs) (k : ∀ b o, H b = some o → Free n ρ b → NTb o → H' b = some o ∧ Free n' ρ' b) : ScrAt K n' ρ' H' a xs := s.elim (fun ⟨h, f⟩ => .inl (h.elim (fun h => let ⟨a, b⟩ := k _ _ h f fun _ z => (by cases z); ⟨.inl a, b⟩) fun ⟨o, h⟩ => let ⟨a, b⟩ := k _ _ h f fun _ z => (by cases z); ⟨.inr ⟨o, a⟩, b⟩)) .inr
/-- a dict's object, known as it is -/
def HD (a : Addr) (o : Obj) : HO := .ext fun h => h.get? a = some o

section
variable (w : World) (K : PySem.W.Frag) (Γ : Gm) (n : Nat) (ρ : Rho) (H : Hp)
mutual
/-- d stands for v; the first number: up to which changeable objects may be named; within values none -/
inductive RelD : Nat → D → V → Prop
  | non {m : Nat} : RelD m .non .non
  | bl {m : Nat} (b : Bool) : RelD m (.bl b) (.bl b)
  | int {m : Nat} (i : Int) : RelD m (.int i) (.int i)
  | str {m : Nat} (x : Str) : RelD m (.str x) (.str x)
  | tup {m : Nat} {a : Addr} {vs : List V} {ds : List D} : H a = some (.tup vs) → Free n ρ a → allUP ds = false → RelDs 0 ds vs → RelD m (.tup ds) (.ref a)
  | tupZ {m : Nat} {a : Addr} {o : Obj} {vs : List V} {ds : List D} : H a = some (.frz o (.tup vs)) → o.dict = none → Free n ρ a → RelDs 0 ds vs → RelD m (.tup ds) (.ref a)
  | tupK {m : Nat} {a : Addr} {o : Obj} {its : Array Value} {z : Nat} {vs : List V} {ds : List D} : K.lookup a = some o → o.cls = .type "tuple" → o.dict = none → o.data = .seq its z → its.size ≤ sizeLine → Vals vs its.toList → RelDs 0 ds vs → RelD m (.tup ds) (.ref a)
  | lst {m : Nat} {a : Addr} {vs : List V} {ds : List D} : H a = some (.lst vs) → Free n ρ a → RelDs 0 ds vs → RelD m (.lst ds) (.ref a)
  | dct {m : Nat} {a : Addr} {o : Obj} {es : Array DictEntry} {ep : Nat} {kvs : List (D × D)} : H a = some (HD a o) → Free n ρ a → o.ExactDict → o.data = .dict es ep → (a == sysModules) = false → KNd kvs → RelKs kvs es.toList → RelD m (.dct kvs) (.ref a)
  | dctK {m : Nat} {a : Addr} {o : Obj} {es : Array DictEntry} {ep : Nat} {kvs : List (D × D)} : K.lookup a = some o → o.ExactDict → o.data = .dict es ep → (a == sysModules) = false → KNd kvs → RelKs kvs es.toList → RelD m (.dct kvs) (.ref a)
  | obj {m : Nat} {a dx : Addr} {fvs : List (Str × V)} {c : Str} {fs : List (Str × D)} : H a = some (.ins (Γ c) dx fvs) → Free n ρ a → Γ.ok c → RelFs 0 fs fvs → RelD m (.obj c fs) (.ref a)
  | ref {m i : Nat} : i < m → RelD m (.ref i) (.ref (ρ.to i))
  | scr {m : Nat} {a : Addr} {ns : List Int} : ScrAt K n ρ H a (ns.map V.int) → RelD m (.scr ns) (.ref a)
inductive RelDs : Nat → List D → List V → Prop
  | nil {m : Nat} : RelDs m [] []
  | cons {m : Nat} {d : D} {v : V} {ds : List D} {vs : List V} : RelD m d v → RelDs m ds vs → RelDs m (d :: ds) (v :: vs)
inductive RelFs : Nat → List (Str × D) → List (Str × V) → Prop
  | nil {m : Nat} : RelFs m [] []
  | cons {m : Nat} {f : Str} {d : D} {v : V} {fs : List (Str × D)} {vs : List (Str × V)} : RelD m d v → RelFs m fs vs → RelFs m ((f, d) :: fs) ((f, v) :: vs)
inductive RelKs : List (D × D) → List DictEntry → Prop
  | nil : RelKs [] []
  | cons {kd vd : D} {kv vv : V} {k : NestedKey} {e : DictEntry} {kvs : List (D × D)} {es : List DictEntry} : RelD 0 kd kv → RelV kv e.key → keyOf kd = some k → e.hash = k.hash w → RelD 0 vd vv → RelV vv e.val → RelKs kvs es → RelKs ((kd, vd) :: kvs) (e :: es)
end

/-- one changeable object -/
def ORel (i : Nat) (a : Addr) : AO → Prop
  | .lst ds => ¬ ρ.fz i ∧ ∃ vs, H a = some (.lst vs) ∧ RelDs w K Γ n ρ H 0 ds vs
  | .dct kvs => ¬ ρ.fz i ∧ ∃ o es ep, H a = some (HD a o) ∧ o.ExactDict ∧ o.data = .dict es ep ∧ (a == sysModules) = false ∧ KNd kvs ∧ RelKs w K Γ n ρ H kvs es.toList
  | .ins c fs => ¬ ρ.fz i ∧ Γ.ok c ∧ ∃ dx fvs, H a = some (.ins (Γ c) dx fvs) ∧ RelFs w K Γ n ρ H n fs fvs
  | .fz d => ρ.fz i ∧ (∃ u, H a = some u ∧ NTb u) ∧ RelD w K Γ n ρ H 0 d (.ref a)
/-- the changeable objects, one address each -/
structure HRel (h : AH) : Prop where
  len : h.length = n
  inj : ∀ i j, i < n → j < n → ρ.to i = ρ.to j → i = j
  nb : ∀ i, i < n → ¬ ρ.ban (ρ.to i)
  live : ∀ b, ρ.ban b → ∃ u, H b = some u
  at_ : ∀ i o, h[i]? = some o → ORel w K Γ n ρ H i (ρ.to i) o
  tab : TabF Γ.T n ρ H
end
/-- what an expression's value stands for -/
abbrev RelT (w : World) (K : PySem.W.Frag) (Γ : Gm) (n : Nat) (ρ : Rho) (H : Hp) : D → V → Prop := RelD w K Γ n ρ H n
abbrev RelTs (w : World) (K : PySem.W.Frag) (Γ : Gm) (n : Nat) (ρ : Rho) (H : Hp) : List D → List V → Prop := RelDs w K Γ n ρ H n
/-- no name of a changeable object -/
def isV : D → Bool
  | .ref _ => false
  | _ => true

/-- values stay values -/
structure Ext0 (n : Nat) (ρ : Rho) (H : Hp) (n' : Nat) (ρ' : Rho) (H' : Hp) : Prop where
  le : n ≤ n'
  same : ∀ i, i < n → ρ'.to i = ρ.to i
  keep : ∀ b o, H b = some o → Free n ρ b → NTb o → H' b = some o ∧ Free n' ρ' b
/-- the state has gone on: nothing but the changeable objects is changed -/
structure Ext (n : Nat) (ρ : Rho) (H : Hp) (n' : Nat) (ρ' : Rho) (H' : Hp) : Prop extends Ext0 n ρ H n' ρ' H' where
  bans : ∀ b, ρ.ban b → ρ'.ban b
  bkeep : ∀ b o, ρ.ban b → H b = some o → H' b = some o
theorem Ext.refl {n ρ H} : Ext n ρ H n ρ H := ⟨⟨Nat.le_refl _, fun _ _ => rfl, fun _ _ h f _ => ⟨h, f⟩⟩, fun _ z => z, fun _ _ _ z => z⟩
theorem Ext.trans {n ρ H n1 ρ1 H1 n2 ρ2 H2} (a : Ext n ρ H n1 ρ1 H1) (b : Ext n1 ρ1 H1 n2 ρ2 H2) : Ext n ρ H n2 ρ2 H2 :=
  ⟨⟨Nat.le_trans a.le b.le, fun i hi => (b.same i (Nat.lt_of_lt_of_le hi a.le)).trans (a.same i hi), fun c o h f t => let ⟨h1, f1⟩ := a.keep c o h f t; b.keep c o h1 f1 t⟩, fun c z => b.bans c (a.bans c z), fun c o z h => b.bkeep c o (a.bans c z) (a.bkeep c o z h)⟩

section
variable {w : World} {K : PySem.W.Frag} {Γ : Gm} {n n' : Nat} {ρ ρ' : Rho} {H H' : Hp}
mutual
theorem RelD.mono0 (x : Ext0 n ρ H n' ρ' H') {m m' : Nat} (hm : m ≤ n) (hm' : m ≤ m') : ∀ {d : D} {v : V}, RelD w K Γ n ρ H m d v → RelD w K Γ n' ρ' H' m' d v
  | _, _, .non => .non
  | _, _, .bl b => .bl b
  | _, _, .int i => .int i
  | _, _, .str s => .str s
  | _, _, .tup h f z r => let ⟨h1, f1⟩ := x.keep _ _ h f (fun _ z => by cases z); .tup h1 f1 z (RelDs.mono0 x (Nat.zero_le _) (Nat.zero_le _) r)
  | _, _, .tupZ h z f r => let ⟨h1, f1⟩ := x.keep _ _ h f (fun _ z => by cases z); .tupZ h1 z f1 (RelDs.mono0 x (Nat.zero_le _) (Nat.zero_le _) r)
  | _, _, .tupK a b d c e v r => .tupK a b d c e v (RelDs.mono0 x (Nat.zero_le _) (Nat.zero_le _) r)
  | _, _, .lst h f r => let ⟨h1, f1⟩ := x.keep _ _ h f (fun _ z => by cases z); .lst h1 f1 (RelDs.mono0 x (Nat.zero_le _) (Nat.zero_le _) r)
  | _, _, .dct h f a b c nd r => let ⟨h1, f1⟩ := x.keep _ _ h f (fun _ z => by cases z); .dct h1 f1 a b c nd (RelKs.mono0 x r)
  | _, _, .dctK h a b c nd r => .dctK h a b c nd (RelKs.mono0 x r)
  | _, _, .obj h f k r => let ⟨h1, f1⟩ := x.keep _ _ h f (fun _ z => by cases z); .obj h1 f1 k (RelFs.mono0 x (Nat.zero_le _) (Nat.zero_le _) r)
  | _, _, .ref (i := i) h => by
    rw [← x.same i (Nat.lt_of_lt_of_le h hm)]
    exact .ref (Nat.lt_of_lt_of_le h hm')
  | _, _, .scr h => .scr (h.keep x.keep)
theorem RelDs.mono0 (x : Ext0 n ρ H n' ρ' H') {m m' : Nat} (hm : m ≤ n) (hm' : m ≤ m') : ∀ {ds : List D} {vs : List V}, RelDs w K Γ n ρ H m ds vs → RelDs w K Γ n' ρ' H' m' ds vs
  | _, _, .nil => .nil
  | _, _, .cons r t => .cons (RelD.mono0 x hm hm' r) (RelDs.mono0 x hm hm' t)
theorem RelFs.mono0 (x : Ext0 n ρ H n' ρ' H') {m m' : Nat} (hm : m ≤ n) (hm' : m ≤ m') : ∀ {ds : List (Str × D)} {vs : List (Str × V)}, RelFs w K Γ n ρ H m ds vs → RelFs w K Γ n' ρ' H' m' ds vs
  | _, _, .nil => .nil
  | _, _, .cons r t => .cons (RelD.mono0 x hm hm' r) (RelFs.mono0 x hm hm' t)
theorem RelKs.mono0 (x : Ext0 n ρ H n' ρ' H') : ∀ {ds : List (D × D)} {vs : List DictEntry}, RelKs w K Γ n ρ H ds vs → RelKs w K Γ n' ρ' H' ds vs
  | _, _, .nil => .nil
  | _, _, .cons r a b c r' d t => .cons (RelD.mono0 x (Nat.zero_le _) (Nat.zero_le _) r) a b c (RelD.mono0 x (Nat.zero_le _) (Nat.zero_le _) r') d (RelKs.mono0 x t)
end
theorem RelD.mono (x : Ext n ρ H n' ρ' H') {d : D} {v : V} (r : RelD w K Γ n ρ H n d v) : RelD w K Γ n' ρ' H' n' d v := r.mono0 x.toExt0 (Nat.le_refl _) x.le
theorem RelDs.mono (x : Ext n ρ H n' ρ' H') {d : List D} {v : List V} (r : RelDs w K Γ n ρ H n d v) : RelDs w K Γ n' ρ' H' n' d v := r.mono0 x.toExt0 (Nat.le_refl _) x.le
theorem RelFs.mono (x : Ext n ρ H n' ρ' H') {d : List (Str × D)} {v : List (Str × V)} (r : RelFs w K Γ n ρ H n d v) : RelFs w K Γ n' ρ' H' n' d v := r.mono0 x.toExt0 (Nat.le_refl _) x.le
theorem RelD.monoP (x : Ext n ρ H n' ρ' H') {d : D} {v : V} (r : RelD w K Γ n ρ H 0 d v) : RelD w K Γ n' ρ' H' 0 d v := r.mono0 x.toExt0 (Nat.zero_le _) (Nat.zero_le _)
theorem RelDs.monoP (x : Ext n ρ H n' ρ' H') {d : List D} {v : List V} (r : RelDs w K Γ n ρ H 0 d v) : RelDs w K Γ n' ρ' H' 0 d v := r.mono0 x.toExt0 (Nat.zero_le _) (Nat.zero_le _)
theorem RelFs.monoP (x : Ext n ρ H n' ρ' H') {d : List (Str × D)} {v : List (Str × V)} (r : RelFs w K Γ n ρ H 0 d v) : RelFs w K Γ n' ρ' H' 0 d v := r.mono0 x.toExt0 (Nat.zero_le _) (Nat.zero_le _)
theorem RelD.monoP0 (x : Ext0 n ρ H n' ρ' H') {d : D} {v : V} (r : RelD w K Γ n ρ H 0 d v) : RelD w K Γ n' ρ' H' 0 d v := r.mono0 x (Nat.zero_le _) (Nat.zero_le _)
theorem RelKs.mono (x : Ext n ρ H n' ρ' H') {d : List (D × D)} {v : List DictEntry} (r : RelKs w K Γ n ρ H d v) : RelKs w K Γ n' ρ' H' d v := r.mono0 x.toExt0
theorem Ext0.refl : Ext0 n ρ H n ρ H := ⟨Nat.le_refl _, fun _ _ => rfl, fun _ _ h f _ => ⟨h, f⟩⟩
/-- a value is a value at any number -/
theorem RelD.up {m : Nat} {d : D} {v : V} (r : RelD w K Γ n ρ H 0 d v) : RelD w K Γ n ρ H m d v := r.mono0 Ext0.refl (Nat.zero_le _) (Nat.zero_le _)
theorem RelDs.up {m : Nat} {d : List D} {v : List V} (r : RelDs w K Γ n ρ H 0 d v) : RelDs w K Γ n ρ H m d v := r.mono0 Ext0.refl (Nat.zero_le _) (Nat.zero_le _)
theorem RelFs.up {m : Nat} {d : List (Str × D)} {v : List (Str × V)} (r : RelFs w K Γ n ρ H 0 d v) : RelFs w K Γ n ρ H m d v := r.mono0 Ext0.refl (Nat.zero_le _) (Nat.zero_le _)
/-- what names no changeable object is a value -/
theorem RelD.down {m : Nat} {d : D} {v : V} (e : isV d = true) (r : RelD w K Γ n ρ H m d v) : RelD w K Γ n ρ H 0 d v := by
  cases r with
  | non => exact .non
  | bl b => exact .bl b
  | int i => exact .int i
  | str x => exact .str x
  | tup h f z r => exact .tup h f z r
  | tupZ h z f r => exact .tupZ h z f r
  | tupK a b d c e' v r => exact .tupK a b d c e' v r
  | lst h f r => exact .lst h f r
  | dct h f a b c nd r => exact .dct h f a b c nd r
  | dctK h a b c nd r => exact .dctK h a b c nd r
  | obj h f k r => exact .obj h f k r
  | ref h => cases e
  | scr h => exact .scr h
theorem RelDs.down {m : Nat} : ∀ {ds : List D} {vs : List V}, ds.all isV = true → RelDs w K Γ n ρ H m ds vs → RelDs w K Γ n ρ H 0 ds vs
  | _, _, _, .nil => .nil
  | _, _, e, .cons r t => by
    rw [List.all_cons, Bool.and_eq_true] at e
    exact .cons (r.down e.1) (RelDs.down e.2 t)
theorem RelD.isV {d : D} {v : V} (r : RelD w K Γ n ρ H 0 d v) : MP.isV d = true := by
  cases r <;> first | rfl | (rename_i h; exact absurd h (Nat.not_lt_zero _))
theorem RelDs.length {m : Nat} : ∀ {ds : List D} {vs : List V}, RelDs w K Γ n ρ H m ds vs → ds.length = vs.length
  | _, _, .nil => rfl
  | _, _, .cons _ t => congrArg Nat.succ (RelDs.length t)
theorem RelDs.append {m : Nat} : ∀ {ds es : List D} {vs us : List V}, RelDs w K Γ n ρ H m ds vs → RelDs w K Γ n ρ H m es us → RelDs w K Γ n ρ H m (ds ++ es) (vs ++ us)
  | _, _, _, _, .nil, s => s
  | _, _, _, _, .cons r t, s => .cons r (RelDs.append t s)
theorem RelDs.get {m : Nat} : ∀ {ds : List D} {vs : List V} {i : Nat} {d : D}, RelDs w K Γ n ρ H m ds vs → ds[i]? = some d → ∃ v, vs[i]? = some v ∧ RelD w K Γ n ρ H m d v
  | _, _, _, _, .nil, e => by simp at e
  | _, _, 0, _, .cons r _, e => by simp at e; subst e; exact ⟨_, rfl, r⟩
  | _, _, i + 1, d, .cons _ t, e => by
    obtain ⟨v, h1, h2⟩ := RelDs.get (i := i) (d := d) t (by simpa using e)
    exact ⟨v, by simpa using h1, h2⟩
/-- a fresh tracked thing beside -/
theorem Ext.new {p : Addr} {o : HO} (hp : H p = none) : Ext n ρ H n ρ (upd H p o) :=
  ⟨⟨Nat.le_refl _, fun _ _ => rfl, fun b u h f _ => ⟨by rw [upd_ne (ne_of_none h hp)]; exact h, f⟩⟩, fun _ z => z, fun b u _ h => by rw [upd_ne (ne_of_none h hp)]; exact h⟩
theorem ORel.live {i : Nat} {a : Addr} {o : AO} (r : ORel w K Γ n ρ H i a o) : ∃ u, H a = some u := by
  cases o with
  | lst ds => obtain ⟨_, vs, h, _⟩ := r; exact ⟨_, h⟩
  | dct kvs => obtain ⟨_, o, es, ep, h, _⟩ := r; exact ⟨_, h⟩
  | ins c fs => obtain ⟨_, _, dx, fvs, h, _⟩ := r; exact ⟨_, h⟩
  | fz d => obtain ⟨u, hu, _⟩ := r.2.1; exact ⟨u, hu⟩
theorem ORel.ntb {i : Nat} {a : Addr} {o : AO} {u : HO} (r : ORel w K Γ n ρ H i a o) (e : H a = some u) : NTb u := by
  cases o with
  | lst ds => obtain ⟨_, vs, h, _⟩ := r; rw [h] at e; cases e; exact fun _ z => by cases z
  | dct kvs => obtain ⟨_, o, es, ep, h, _⟩ := r; rw [h] at e; cases e; exact fun _ z => by cases z
  | ins c fs => obtain ⟨_, _, dx, fvs, h, _⟩ := r; rw [h] at e; cases e; exact fun _ z => by cases z
  | fz d => obtain ⟨_, ⟨u', h, t⟩, _⟩ := r; rw [h] at e; cases e; exact t
theorem HRel.there {h : AH} (r : HRel w K Γ n ρ H h) {i : Nat} (hi : i < n) : ∃ u, H (ρ.to i) = some u := by
  have e : h[i]? = some (h[i]'(by rw [r.len]; exact hi)) := List.getElem?_eq_getElem _
  exact (r.at_ i _ e).live
theorem ORel.mono (x : Ext0 n ρ H n' ρ' H') {i : Nat} {a : Addr} {o : AO} (hf : ρ'.fz i ↔ ρ.fz i) (ha : ∀ u, H a = some u → H' a = some u) (r : ORel w K Γ n ρ H i a o) : ORel w K Γ n' ρ' H' i a o := by
  cases o with
  | lst ds => obtain ⟨z, vs, h, q⟩ := r; exact ⟨fun y => z (hf.mp y), vs, ha _ h, q.mono0 x (Nat.zero_le _) (Nat.zero_le _)⟩
  | dct kvs => obtain ⟨z, o, es, ep, h, a1, a2, a3, a4, q⟩ := r; exact ⟨fun y => z (hf.mp y), o, es, ep, ha _ h, a1, a2, a3, a4, q.mono0 x⟩
  | ins c fs => obtain ⟨z, k, dx, fvs, h, q⟩ := r; exact ⟨fun y => z (hf.mp y), k, dx, fvs, ha _ h, q.mono0 x (Nat.le_refl _) x.le⟩
  | fz d => obtain ⟨z, ⟨u, h, t⟩, q⟩ := r; exact ⟨hf.mpr z, ⟨u, ha _ h, t⟩, q.mono0 x (Nat.zero_le _) (Nat.zero_le _)⟩
/-- a fresh object is none of them -/
theorem HRel.fresh {h : AH} (r : HRel w K Γ n ρ H h) {p : Addr} (hp : H p = none) : Free n ρ p := by
  refine ⟨fun z => ?_, fun i hi _ e => ?_⟩
  · obtain ⟨u, hu⟩ := r.live p z
    rw [hp] at hu
    cases hu
  · obtain ⟨u, hu⟩ := r.there hi
    rw [← e, hp] at hu
    cases hu
/-- something new is laid, a value -/
theorem HRel.new {h : AH} (r : HRel w K Γ n ρ H h) {p : Addr} {o : HO} (hp : H p = none) : HRel w K Γ n ρ (upd H p o) h :=
  ⟨r.len, r.inj, r.nb, fun b z => by
    obtain ⟨u, hu⟩ := r.live b z
    exact ⟨u, by rw [upd_ne (ne_of_none hu hp)]; exact hu⟩, fun i ob e => ORel.mono (Ext.new hp).toExt0 Iff.rfl (fun u q => by rw [upd_ne (ne_of_none q hp)]; exact q) (r.at_ i ob e), r.tab.keep fun b u h f => ⟨by rw [upd_ne (ne_of_none h hp)]; exact h, f⟩⟩
/-- the new address among the changeable ones -/
def put (ρ : Rho) (n : Nat) (p : Addr) : Rho := { ρ with to := fun i => if i = n then p else ρ.to i, fz := fun i => i ≠ n ∧ ρ.fz i }
theorem put_same {p : Addr} : (put ρ n p).to n = p := by unfold put; exact if_pos rfl
theorem put_lt {p : Addr} {i : Nat} (h : i < n) : (put ρ n p).to i = ρ.to i := by unfold put; exact if_neg (Nat.ne_of_lt h)
theorem put_ban {p b : Addr} : (put ρ n p).ban b = ρ.ban b := rfl
theorem put_nfz {p : Addr} : ¬ (put ρ n p).fz n := fun z => z.1 rfl
theorem put_fz {p : Addr} {i : Nat} (h : i < n) : (put ρ n p).fz i ↔ ρ.fz i := ⟨fun z => z.2, fun z => ⟨Nat.ne_of_lt h, z⟩⟩
theorem keepF_track {p : Addr} {o : HO} (hp : H p = none) : KeepF n ρ H (n + 1) (put ρ n p) (upd H p o) := by
  refine fun b u h f => ⟨by rw [upd_ne (ne_of_none h hp)]; exact h, f.1, fun i hi hz => ?_⟩
  by_cases e : i = n
  · subst e; rw [put_same]; exact ne_of_none h hp
  · rw [put_lt (by omega)]; exact f.2 i (by omega) fun z => hz ((put_fz (by omega)).mpr z)
theorem Ext.track {p : Addr} {o : HO} (hp : H p = none) : Ext n ρ H (n + 1) (put ρ n p) (upd H p o) :=
  ⟨⟨Nat.le_succ _, fun i hi => put_lt hi, fun b u h f _ => keepF_track hp b u h f⟩, fun _ z => z, fun b u _ h => by rw [upd_ne (ne_of_none h hp)]; exact h⟩
/-- a new object is made a changeable one -/
theorem HRel.track {h : AH} (r : HRel w K Γ n ρ H h) {p : Addr} {o : HO} {ao : AO} (hp : H p = none) (q : ORel w K Γ (n + 1) (put ρ n p) (upd H p o) n p ao) : HRel w K Γ (n + 1) (put ρ n p) (upd H p o) (h ++ [ao]) := by
  have fr : ∀ i, i < n → p ≠ ρ.to i := fun i hi e => by
    obtain ⟨u, hu⟩ := r.there hi
    rw [← e, hp] at hu
    cases hu
  refine ⟨by rw [List.length_append, r.len]; rfl, fun i j hi hj e => ?_, fun i hi => ?_, fun b z => ?_, fun i ob e => ?_, r.tab.keep (keepF_track hp)⟩
  · by_cases a : i = n
    · by_cases b : j = n
      · rw [a, b]
      · rw [a, put_same, put_lt (by omega)] at e
        exact absurd e (fr j (by omega))
    · by_cases b : j = n
      · rw [b, put_same, put_lt (by omega)] at e
        exact absurd e.symm (fr i (by omega))
      · rw [put_lt (by omega), put_lt (by omega)] at e
        exact r.inj i j (by omega) (by omega) e
  · rw [put_ban]
    by_cases a : i = n
    · rw [a, put_same]; exact (r.fresh hp).1
    · rw [put_lt (by omega)]; exact r.nb i (by omega)
  · obtain ⟨u, hu⟩ := r.live b z
    exact ⟨u, by rw [upd_ne (ne_of_none hu hp)]; exact hu⟩
  · by_cases hi : i < n
    · rw [List.getElem?_append_left (by rw [r.len]; exact hi)] at e
      rw [put_lt hi]
      exact ORel.mono (Ext.track hp).toExt0 (put_fz hi) (fun u q => by rw [upd_ne (ne_of_none q hp)]; exact q) (r.at_ i ob e)
    · rw [List.getElem?_append_right (by rw [r.len]; omega), r.len] at e
      have hz : i - n = 0 := by
        cases q : i - n with
        | zero => rfl
        | succ k => rw [q] at e; simp at e
      have hin : i = n := by omega
      rw [hz] at e
      have e2 : ao = ob := by simpa using e
      subst e2
      rw [hin, put_same]
      exact q
/-! a new object that is no value yet (a comprehension's list) -/
def ban (ρ : Rho) (p : Addr) : Rho := { ρ with ban := fun b => ρ.ban b ∨ b = p }
theorem Ext.banned {p : Addr} {o : HO} (hp : H p = none) : Ext n ρ H n (ban ρ p) (upd H p o) :=
  ⟨⟨Nat.le_refl _, fun _ _ => rfl, fun b u h f _ => ⟨by rw [upd_ne (ne_of_none h hp)]; exact h, fun z => z.elim f.1 (ne_of_none h hp), f.2⟩⟩, fun _ z => .inl z, fun b u _ h => by rw [upd_ne (ne_of_none h hp)]; exact h⟩
theorem HRel.banned {h : AH} (r : HRel w K Γ n ρ H h) {p : Addr} {o : HO} (hp : H p = none) : HRel w K Γ n (ban ρ p) (upd H p o) h :=
  ⟨r.len, r.inj, fun i hi z => z.elim (r.nb i hi) fun e => (by
    obtain ⟨u, hu⟩ := r.there hi
    rw [show ρ.to i = p from e, hp] at hu
    cases hu), fun b z => by
    rcases z with z | z
    · obtain ⟨u, hu⟩ := r.live b z
      exact ⟨u, by rw [upd_ne (ne_of_none hu hp)]; exact hu⟩
    · exact ⟨o, by rw [z]; exact upd_same⟩, fun i ob e => ORel.mono (Ext.banned hp).toExt0 Iff.rfl (fun u q => by rw [upd_ne (ne_of_none q hp)]; exact q) (r.at_ i ob e),
    r.tab.keep fun b u h f => ⟨by rw [upd_ne (ne_of_none h hp)]; exact h, fun z => z.elim f.1 (ne_of_none h hp), f.2⟩⟩
/-- what is banned is changed -/
theorem Ext0.over {p : Addr} {o : HO} (hb : ρ.ban p) : Ext0 n ρ H n ρ (upd H p o) :=
  ⟨Nat.le_refl _, fun _ _ => rfl, fun b u h f _ => ⟨by rw [upd_ne fun e => f.1 (by rw [e]; exact hb)]; exact h, f⟩⟩
theorem HRel.over {h : AH} (r : HRel w K Γ n ρ H h) {p : Addr} {o : HO} (hb : ρ.ban p) : HRel w K Γ n ρ (upd H p o) h :=
  ⟨r.len, r.inj, r.nb, fun b z => by
    by_cases e : b = p
    · exact ⟨o, by rw [e]; exact upd_same⟩
    · obtain ⟨u, hu⟩ := r.live b z
      exact ⟨u, by rw [upd_ne e]; exact hu⟩, fun i ob e => by
    have hi : i < n := by rw [← r.len]; exact (List.getElem?_eq_some_iff.mp e).1
    exact ORel.mono (Ext0.over hb) Iff.rfl (fun u q => by rw [upd_ne fun z => r.nb i hi (by rw [z]; exact hb)]; exact q) (r.at_ i ob e),
    r.tab.keep fun b u h f => ⟨by rw [upd_ne fun e => f.1 (by rw [e]; exact hb)]; exact h, f⟩⟩
/-- seen from before it was made -/
theorem Ext.overNew {n₀ : Nat} {ρ₀ : Rho} {H₀ : Hp} {p : Addr} {o : HO} (x : Ext n₀ ρ₀ H₀ n ρ H) (hp : H₀ p = none) : Ext n₀ ρ₀ H₀ n ρ (upd H p o) :=
  ⟨⟨x.le, x.same, fun b u h f t => let ⟨h1, f1⟩ := x.keep b u h f t; ⟨by rw [upd_ne (ne_of_none h hp)]; exact h1, f1⟩⟩, x.bans, fun b u z h => by rw [upd_ne (ne_of_none h hp)]; exact x.bkeep b u z h⟩
/-- it is a value from now on -/
def unban (ρ : Rho) (p : Addr) : Rho := { ρ with ban := fun b => ρ.ban b ∧ b ≠ p }
theorem Ext0.unban {p : Addr} : Ext0 n ρ H n (unban ρ p) H :=
  ⟨Nat.le_refl _, fun _ _ => rfl, fun b u h f _ => ⟨h, fun z => f.1 z.1, f.2⟩⟩
theorem HRel.unban {h : AH} (r : HRel w K Γ n ρ H h) {p : Addr} : HRel w K Γ n (unban ρ p) H h :=
  ⟨r.len, r.inj, fun i hi z => r.nb i hi z.1, fun b z => r.live b z.1, fun i ob e => ORel.mono Ext0.unban Iff.rfl (fun u q => q) (r.at_ i ob e), r.tab.keep fun b u h f => ⟨h, fun z => f.1 z.1, f.2⟩⟩
theorem HRel.unbanned {h : AH} (r : HRel w K Γ n ρ H h) {p : Addr} (hb : ρ.ban p) : Free n (MP.unban ρ p) p :=
  ⟨fun z => z.2 rfl, fun i hi _ e => r.nb i hi (by show ρ.ban (ρ.to i); rw [show ρ.to i = p from e.symm]; exact hb)⟩
theorem Ext.unbanNew {n₀ : Nat} {ρ₀ : Rho} {H₀ : Hp} {p : Addr} {h₀ : AH} (x : Ext n₀ ρ₀ H₀ n ρ H) (hr : HRel w K Γ n₀ ρ₀ H₀ h₀) (hp : H₀ p = none) : Ext n₀ ρ₀ H₀ n (MP.unban ρ p) H :=
  ⟨⟨x.le, x.same, fun b u h f t => let ⟨h1, f1⟩ := x.keep b u h f t; ⟨h1, fun z => f1.1 z.1, f1.2⟩⟩, fun b z => ⟨x.bans b z, fun e => by
    obtain ⟨u, hu⟩ := hr.live b z
    rw [e, hp] at hu
    cases hu⟩, x.bkeep⟩
/-- a changeable object is changed -/
theorem Ext.write {i : Nat} {o : HO} (hi : i < n) (hz : ¬ ρ.fz i) (nb : ¬ ρ.ban (ρ.to i)) : Ext n ρ H n ρ (upd H (ρ.to i) o) :=
  ⟨⟨Nat.le_refl _, fun _ _ => rfl, fun b u h f _ => ⟨by rw [upd_ne (f.2 i hi hz)]; exact h, f⟩⟩, fun _ z => z, fun b u z h => by rw [upd_ne fun e => nb (by rw [← e]; exact z)]; exact h⟩
theorem HRel.write {h : AH} (r : HRel w K Γ n ρ H h) {i : Nat} {o : HO} {ao : AO} (hi : i < n) (hz : ¬ ρ.fz i) (q : ORel w K Γ n ρ (upd H (ρ.to i) o) i (ρ.to i) ao) : HRel w K Γ n ρ (upd H (ρ.to i) o) (h.set i ao) := by
  refine ⟨by rw [List.length_set]; exact r.len, r.inj, r.nb, fun b z => ?_, fun j ob e => ?_, r.tab.keep fun b u h f => ⟨by rw [upd_ne (f.2 i hi hz)]; exact h, f⟩⟩
  · obtain ⟨u, hu⟩ := r.live b z
    exact ⟨u, by rw [upd_ne fun e => r.nb i hi (by rw [← e]; exact z)]; exact hu⟩
  · by_cases hj : i = j
    · subst hj
      rw [List.getElem?_set_self (by rw [r.len]; exact hi)] at e
      cases e
      exact q
    · rw [List.getElem?_set_ne hj] at e
      have hjn : j < n := by rw [← r.len]; exact (List.getElem?_eq_some_iff.mp e).1
      exact ORel.mono (Ext.write hi hz (r.nb i hi)).toExt0 Iff.rfl (fun u q => by rw [upd_ne fun z => hj (r.inj i j hi hjn z.symm)]; exact q) (r.at_ j ob e)
/-- it is given away: a value from now on -/
def fzAt (ρ : Rho) (i : Nat) : Rho := { ρ with fz := fun j => ρ.fz j ∨ j = i }
theorem Ext.freeze {i : Nat} : Ext n ρ H n (fzAt ρ i) H :=
  ⟨⟨Nat.le_refl _, fun _ _ => rfl, fun b u h f _ => ⟨h, f.1, fun j hj hz => f.2 j hj fun z => hz (.inl z)⟩⟩, fun _ z => z, fun _ _ _ h => h⟩
theorem HRel.frozen {h : AH} (r : HRel w K Γ n ρ H h) {i : Nat} (hi : i < n) : Free n (fzAt ρ i) (ρ.to i) :=
  ⟨r.nb i hi, fun j hj hz e => hz (.inr (r.inj i j hi hj e).symm)⟩
theorem HRel.freeze {h : AH} (r : HRel w K Γ n ρ H h) {i : Nat} {d : D} (hi : i < n) (nt : ∃ u, H (ρ.to i) = some u ∧ NTb u) (q : RelD w K Γ n (fzAt ρ i) H 0 d (.ref (ρ.to i))) : HRel w K Γ n (fzAt ρ i) H (h.set i (.fz d)) := by
  refine ⟨by rw [List.length_set]; exact r.len, r.inj, r.nb, r.live, fun j ob e => ?_, r.tab.keep fun b u h f => ⟨h, f.1, fun j hj hz => f.2 j hj fun z => hz (.inl z)⟩⟩
  by_cases hj : i = j
  · subst hj
    rw [List.getElem?_set_self (by rw [r.len]; exact hi)] at e
    cases e
    exact ⟨.inr rfl, nt, q⟩
  · rw [List.getElem?_set_ne hj] at e
    exact ORel.mono (Ext.freeze (i := i)).toExt0 ⟨fun z => z.elim id fun z => absurd z.symm hj, .inl⟩ (fun u q => q) (r.at_ j ob e)
end
end MP
set_option Elab.async false
set_option linter.all false
set_option maxRecDepth 100000
set_option maxHeartbeats 4000000
/-! MPB: the evaluator's results, readings by deep values, first rules. -/
namespace MP
open PySem PySem.Spec PyProof.Rows L2

inductive Out (α : Type) where
  | ok (a : α)
  | exc (c : Str) (fs : List (Str × D))
abbrev Res (α : Type) := Option (Out α × AH)
abbrev Env' := List (Option D)
def bindR {α β : Type} (r : Res α) (k : α → AH → Res β) : Res β := match r with
  | none => none
  | some (.ok a, h) => k a h
  | some (.exc c fs, h) => some (.exc c fs, h)
def okR {α : Type} (a : α) (h : AH) : Res α := some (.ok a, h)
/-- an operation on values that raises nothing -/
def opR {α : Type} (r : Option (α × AH)) : Res α := match r with
  | some (a, h) => some (.ok a, h)
  | none => none

structure EnvW (w : World) (K : PySem.W.Frag) (Γ : Gm) (n : Nat) (ρ : Rho) (H : Hp) (E : Env') (σ : L2.St) : Prop where
  len : E.length = σ.length
  at_ : ∀ (i : Nat) (d : D), E[i]? = some (some d) → ∃ v, σ[i]? = some (some v) ∧ RelD w K Γ n ρ H n d v
section
variable (X : Cx) (Γ : Gm)
abbrev RD (n : Nat) (ρ : Rho) (H : Hp) : D → V → Prop := RelD X.w X.K Γ n ρ H n
abbrev RD0 (n : Nat) (ρ : Rho) (H : Hp) : D → V → Prop := RelD X.w X.K Γ n ρ H 0
abbrev RDs (n : Nat) (ρ : Rho) (H : Hp) : List D → List V → Prop := RelDs X.w X.K Γ n ρ H n
abbrev RDs0 (n : Nat) (ρ : Rho) (H : Hp) : List D → List V → Prop := RelDs X.w X.K Γ n ρ H 0
abbrev HR (n : Nat) (ρ : Rho) (H : Hp) (h : AH) : Prop := HRel X.w X.K Γ n ρ H h
abbrev EnvR (n : Nat) (ρ : Rho) (H : Hp) (E : Env') (σ : L2.St) : Prop := EnvW X.w X.K Γ n ρ H E σ
/-- an exception: its class, its own fields -/
def XR (n : Nat) (ρ : Rho) (H : Hp) (c : Str) (fs : List (Str × D)) (cls : Value) (dd : Option Addr) : Prop :=
  cls = .ref (Γ c) ∧ ((fs = [] ∧ dd = none) ∨ ∃ a fvs, dd = some a ∧ H a = some (.xd fvs) ∧ Free n ρ a ∧ RelFs X.w X.K Γ n ρ H 0 fs fvs)
/-- what is wanted behind a result -/
def Post {α β : Type} (R : Nat → Rho → Hp → α → β → Prop) (n : Nat) (ρ : Rho) (H : Hp) (W : Value → Option Addr → Hp → Prop) (r : Res α) (Q : β → Hp → Prop) : Prop := match r with
  | none => False
  | some (.ok d, h') => ∀ v n' ρ' H', Ext n ρ H n' ρ' H' → HR X Γ n' ρ' H' h' → R n' ρ' H' d v → Q v H'
  | some (.exc c fs, h') => ∀ cls dd n' ρ' H', Ext n ρ H n' ρ' H' → HR X Γ n' ρ' H' h' → XR X Γ n' ρ' H' c fs cls dd → W cls dd H'
abbrev PostE := @Post X Γ D V (RelT X.w X.K Γ)
abbrev PostA := @Post X Γ (List D) (List V) (RelTs X.w X.K Γ)
abbrev PostT := @Post X Γ Bool Bool (fun _ _ _ a b => a = b)
abbrev PostO (n : Nat) (ρ : Rho) (H : Hp) (r : Option (D × AH)) (Q : VK) : Prop := PostE X Γ n ρ H (fun _ _ _ => False) (opR r) Q
/-- a reading by an evaluation -/
def tD (W : WX) (f : Env' → AH → Res D) : TE := fun σ H Q => ∃ E h n ρ, EnvR X Γ n ρ H E σ ∧ HR X Γ n ρ H h ∧ PostE X Γ n ρ H (fun c d H' => W c d σ H') (f E h) Q
def tDA (W : WX) (f : Env' → AH → Res (List D)) : TA := fun σ H Q => ∃ E h n ρ, EnvR X Γ n ρ H E σ ∧ HR X Γ n ρ H h ∧ PostA X Γ n ρ H (fun c d H' => W c d σ H') (f E h) Q
def tDT (W : WX) (f : Env' → AH → Res Bool) : TT := fun σ H Q => ∃ E h n ρ, EnvR X Γ n ρ H E σ ∧ HR X Γ n ρ H h ∧ PostT X Γ n ρ H (fun c d H' => W c d σ H') (f E h) Q
abbrev DE (W : WX) (e : Expr) (f : Env' → AH → Res D) : Prop := PE X e (tD X Γ W f)
abbrev DA (W : WX) (es : List Expr) (f : Env' → AH → Res (List D)) : Prop := PA X es (tDA X Γ W f)
abbrev DT (W : WX) (e : Expr) (f : Env' → AH → Res Bool) : Prop := PT X e (tDT X Γ W f)
abbrev DW (W : WX) (e : Expr) (f : Env' → AH → Res Bool) : Prop := PW X e (tDT X Γ W f)
/-- an operation of two values -/
def rD (op : D → D → AH → Option (D × AH)) : R2 := fun x y H Q => ∃ h n ρ a b, HR X Γ n ρ H h ∧ RD X Γ n ρ H a x ∧ RD X Γ n ρ H b y ∧ PostO X Γ n ρ H (op a b h) Q
end

theorem PE.imp {X : Cx} {e : Expr} {t t' : TE} (p : PE X e t) (h : ∀ σ H Q, t' σ H Q → t σ H Q) : PE X e t' := ⟨fun pins s σ H Q I q => p.run pins s σ H Q I (h σ H Q q)⟩
theorem PA.imp {X : Cx} {e : List Expr} {t t' : TA} (p : PA X e t) (h : ∀ σ H Q, t' σ H Q → t σ H Q) : PA X e t' := ⟨fun pos pins s σ H Q I q => p.run pos pins s σ H Q I (h σ H Q q)⟩
theorem PT.imp {X : Cx} {e : Expr} {t t' : TT} (p : PT X e t) (h : ∀ σ H Q, t' σ H Q → t σ H Q) : PT X e t' := ⟨fun pins s σ H Q I q => p.run pins s σ H Q I (h σ H Q q)⟩
theorem PW.imp {X : Cx} {e : Expr} {t t' : TT} (p : PW X e t) (h : ∀ σ H Q, t' σ H Q → t σ H Q) : PW X e t' := ⟨fun wh pins s σ H Q I q => p.run wh pins s σ H Q I (h σ H Q q)⟩

section
variable {X : Cx} {Γ : Gm} {W : WX} {n n' : Nat} {ρ ρ' : Rho} {H H' : Hp} {E : Env'} {σ : L2.St} {h : AH}
theorem EnvR.mono (x : Ext n ρ H n' ρ' H') (r : EnvR X Γ n ρ H E σ) : EnvR X Γ n' ρ' H' E σ := ⟨r.len, fun i d e => let ⟨v, a, b⟩ := r.at_ i d e; ⟨v, a, b.mono x⟩⟩
theorem Post.mono {α β : Type} {R : Nat → Rho → Hp → α → β → Prop} {Wx : Value → Option Addr → Hp → Prop} {r : Res α} {Q : β → Hp → Prop} (x : Ext n ρ H n' ρ' H') (p : Post X Γ R n ρ H Wx r Q) : Post X Γ R n' ρ' H' Wx r Q := by
  match r, p with
  | some (.ok d, h'), p => exact fun v n2 ρ2 H2 y => p v n2 ρ2 H2 (x.trans y)
  | some (.exc c fs, h'), p => exact fun cls dd n2 ρ2 H2 y => p cls dd n2 ρ2 H2 (x.trans y)
/-- the first of two evaluations: its own end, with the second one's wish -/
theorem Post.bind {α β γ δ : Type} {R : Nat → Rho → Hp → α → β → Prop} {S : Nat → Rho → Hp → γ → δ → Prop} {Wx : Value → Option Addr → Hp → Prop} {r : Res α} {k : α → AH → Res γ} {Q : δ → Hp → Prop}
    (p : Post X Γ S n ρ H Wx (bindR r k) Q) :
    Post X Γ R n ρ H Wx r (fun v H1 => ∃ d h1 n1 ρ1, Ext n ρ H n1 ρ1 H1 ∧ HR X Γ n1 ρ1 H1 h1 ∧ R n1 ρ1 H1 d v ∧ Post X Γ S n1 ρ1 H1 Wx (k d h1) Q) := by
  match r, p with
  | some (.ok d, h'), p => exact fun v n1 ρ1 H1 y hr rd => ⟨d, h', n1, ρ1, y, hr, rd, Post.mono y p⟩
  | some (.exc c fs, h'), p => exact p
theorem Post.imp {α β : Type} {R : Nat → Rho → Hp → α → β → Prop} {Wx : Value → Option Addr → Hp → Prop} {r : Res α} {Q Q' : β → Hp → Prop} (p : Post X Γ R n ρ H Wx r Q) (q : ∀ v H', Q v H' → Q' v H') : Post X Γ R n ρ H Wx r Q' := by
  match r, p with
  | some (.ok d, h'), p => exact fun v n1 ρ1 H1 y hr rd => q _ _ (p v n1 ρ1 H1 y hr rd)
  | some (.exc c fs, h'), p => exact p
/-- with what is known behind it -/
theorem Post.imp' {α β : Type} {R : Nat → Rho → Hp → α → β → Prop} {Wx : Value → Option Addr → Hp → Prop} {r : Res α} {Q Q' : β → Hp → Prop} (p : Post X Γ R n ρ H Wx r Q)
    (q : ∀ v d h' n1 ρ1 H1, r = some (.ok d, h') → Ext n ρ H n1 ρ1 H1 → HR X Γ n1 ρ1 H1 h' → R n1 ρ1 H1 d v → Q v H1 → Q' v H1) : Post X Γ R n ρ H Wx r Q' := by
  match r, p, q with
  | some (.ok d, h'), p, q => exact fun v n1 ρ1 H1 y hr rd => q v d h' n1 ρ1 H1 rfl y hr rd (p v n1 ρ1 H1 y hr rd)
  | some (.exc c fs, h'), p, _ => exact p
theorem Post.okR {α β : Type} {R : Nat → Rho → Hp → α → β → Prop} {Wx : Value → Option Addr → Hp → Prop} {a : α} {v : β} {Q : β → Hp → Prop} (p : Post X Γ R n ρ H Wx (okR a h) Q) (hr : HR X Γ n ρ H h) (r : R n ρ H a v) : Q v H := p v n ρ H Ext.refl hr r

/-! ### names and constants -/
def evC (d : D) : Env' → AH → Res D := fun _ h => okR d h
theorem de_c {e : Expr} {d : D} {v : V} (p : PE X e (tC v)) (r : ∀ n ρ H, RD X Γ n ρ H d v) : DE X Γ W e (evC d) :=
  PE.imp p fun σ H Q ⟨E, h, n, ρ, _, hr, q⟩ => q.okR hr (r n ρ H)
def evVar (i : Nat) : Env' → AH → Res D := fun E h => match E[i]? with
  | some (some d) => okR d h
  | _ => none
theorem de_var {i : Nat} {e : Expr} (p : PE X e (tVar i)) : DE X Γ W e (evVar i) :=
  PE.imp p fun σ H Q ⟨E, h, n, ρ, er, hr, q⟩ => by
    unfold evVar at q
    cases e1 : E[i]? with
    | none => rw [e1] at q; exact q.elim
    | some o =>
      cases o with
      | none => rw [e1] at q; exact q.elim
      | some d =>
        rw [e1] at q
        obtain ⟨v, h1, h2⟩ := er.at_ i d e1
        exact ⟨v, h1, q.okR hr h2⟩

/-! ### two in a row -/
def evBin (f : D → D → AH → Option (D × AH)) (fa fb : Env' → AH → Res D) : Env' → AH → Res D := fun E h => bindR (fa E h) fun a h1 => bindR (fb E h1) fun b h2 => opR (f a b h2)
theorem tD_bind2 {fa fb : Env' → AH → Res D} {op : D → D → AH → Option (D × AH)} {σ : L2.St} {H : Hp} {Q : VK}
    (h : tD X Γ W (fun E h => bindR (fa E h) fun a h1 => bindR (fb E h1) fun b h2 => opR (op a b h2)) σ H Q) :
    tOp (rD X Γ op) (tD X Γ W fa) (tD X Γ W fb) σ H Q := by
  obtain ⟨E, h0, n, ρ, er, hr, q⟩ := h
  refine ⟨E, h0, n, ρ, er, hr, (Post.bind (R := RelT X.w X.K Γ) q).imp fun x H1 ⟨a, h1, n1, ρ1, x1, hr1, r1, q1⟩ => ?_⟩
  refine ⟨E, h1, n1, ρ1, er.mono x1, hr1, (Post.bind (R := RelT X.w X.K Γ) q1).imp fun y H2 ⟨b, h2, n2, ρ2, x2, hr2, r2, q2⟩ => ?_⟩
  refine ⟨h2, n2, ρ2, a, b, hr2, r1.mono x2, r2, ?_⟩
  cases e : op a b h2 with
  | none => rw [e] at q2; exact q2.elim
  | some p =>
    obtain ⟨d, h3⟩ := p
    rw [e] at q2
    exact q2
theorem de_op {a b : Expr} {op : Operator} {pos : Pos} {fa fb : Env' → AH → Res D} {f : D → D → AH → Option (D × AH)} (ho : OpR X (binaryOp op) (rD X Γ f)) (ha : DE X Γ W a fa) (hb : DE X Γ W b fb) :
    DE X Γ W (.BinOp a op b pos) (evBin f fa fb) := PE.imp (pe_op ho ha hb) fun _ _ _ q => tD_bind2 q
theorem de_cmp {a b : Expr} {op : CmpOp} {pos : Pos} {fa fb : Env' → AH → Res D} {f : D → D → AH → Option (D × AH)} (ho : OpR X (compareOp op) (rD X Γ f)) (ha : DE X Γ W a fa) (hb : DE X Γ W b fb) (hm : behindInMarks op b = false) :
    DE X Γ W (.Compare a [op] [b] pos) (evBin f fa fb) := PE.imp (pe_cmpR ho ha hb hm) fun _ _ _ q => tD_bind2 q
/-- a value as a test: a bool -/
def asB (d : D) (h : AH) : Res Bool := match d with
  | .bl b => okR b h
  | _ => none
theorem RelD.bl_of {b : Bool} {v : V} (r : RD X Γ n ρ H (.bl b) v) : v = .bl b := by cases r; rfl
theorem asB_post {d : D} {v : V} {Wx : Value → Option Addr → Hp → Prop} {Q : Bool → Hp → Prop} (r : RD X Γ n ρ H d v) (hr : HR X Γ n ρ H h) (q : PostT X Γ n ρ H Wx (asB d h) Q) : ∃ k, v = .bl k ∧ Q k H := by
  cases d with
  | bl b => exact ⟨b, r.bl_of, q.okR hr rfl⟩
  | _ => exact q.elim
def tvOf (f : Env' → AH → Res D) : Env' → AH → Res Bool := fun E h => bindR (f E h) asB
theorem tD_test {f : Env' → AH → Res D} {σ : L2.St} {H : Hp} {Q : Bool → Hp → Prop} (h : tDT X Γ W (fun E h => bindR (f E h) asB) σ H Q) : tD X Γ W f σ H (fun x H' => ∃ k, x = .bl k ∧ Q k H') := by
  obtain ⟨E, h0, n, ρ, er, hr, q⟩ := h
  exact ⟨E, h0, n, ρ, er, hr, (Post.bind (R := RelT X.w X.K Γ) q).imp fun x H1 ⟨a, h1, n1, ρ1, x1, hr1, r1, q1⟩ => asB_post r1 hr1 q1⟩
/-- a comparison as a test -/
theorem dt_cmp {a b : Expr} {op : CmpOp} {pos : Pos} {fa fb : Env' → AH → Res D} {f : D → D → AH → Option (D × AH)} (ho : OpR X (compareOp op) (rD X Γ f)) (ha : DE X Γ W a fa) (hb : DE X Γ W b fb) (hm : behindInMarks op b = false) :
    DT X Γ W (.Compare a [op] [b] pos) (tvOf (evBin f fa fb)) :=
  PT.imp (pt_cmpR ho ha hb hm) fun σ H Q q => by
    have := tD_test q
    exact tD_bind2 this
/-- any expression that gives a bool, as a test -/
theorem dt_val {e : Expr} {f : Env' → AH → Res D} (p : DE X Γ W e f) (he : ∀ whole, isTrue e X.env whole = (do let v ← whole; standAt e.pos; holding [v] (truthy v))) : DT X Γ W e (tvOf f) :=
  PT.imp (pt_val p he) fun σ H Q q => tD_test q
def tvNot (f : Env' → AH → Res Bool) : Env' → AH → Res Bool := fun E h => bindR (f E h) fun b h1 => okR (!b) h1
theorem dt_not {e : Expr} {pos : Pos} {f : Env' → AH → Res Bool} (p : DT X Γ W e f) : DT X Γ W (.UnaryOp .Not e pos) (tvNot f) :=
  PT.imp (pt_not p) fun σ H Q ⟨E, h0, n, ρ, er, hr, q⟩ => ⟨E, h0, n, ρ, er, hr, (Post.bind (R := fun _ _ _ (a b : Bool) => a = b) q).imp fun x H1 ⟨a, h1, n1, ρ1, x1, hr1, r1, q1⟩ => by
    subst r1
    exact q1.okR hr1 rfl⟩
def andR (a : Res Bool) (b : AH → Res Bool) : Res Bool := bindR a fun x h => match x with
  | true => b h
  | false => okR false h
def orR (a : Res Bool) (b : AH → Res Bool) : Res Bool := bindR a fun x h => match x with
  | true => okR true h
  | false => b h
def tvAnd (fa fb : Env' → AH → Res Bool) : Env' → AH → Res Bool := fun E h => andR (fa E h) (fb E)
def tvOr (fa fb : Env' → AH → Res Bool) : Env' → AH → Res Bool := fun E h => orR (fa E h) (fb E)
theorem dw_and1 {a : Expr} {pos : Pos} {f : Env' → AH → Res Bool} (p : DT X Γ W a f) : DW X Γ W (.BoolOp .And [a] pos) f := pw_and1 p
theorem dw_or1 {a : Expr} {pos : Pos} {f : Env' → AH → Res Bool} (p : DT X Γ W a f) : DW X Γ W (.BoolOp .Or [a] pos) f := pw_or1 p
theorem dw_and {a b : Expr} {r : List Expr} {pos : Pos} {fa fb : Env' → AH → Res Bool} (pa : DT X Γ W a fa) (pb : DW X Γ W (.BoolOp .And (b :: r) pos) fb) : DW X Γ W (.BoolOp .And (a :: b :: r) pos) (tvAnd fa fb) :=
  PW.imp (pw_and pa pb) fun σ H Q ⟨E, h0, n, ρ, er, hr, q⟩ => ⟨E, h0, n, ρ, er, hr, (Post.bind (R := fun _ _ _ (a b : Bool) => a = b) q).imp fun x H1 ⟨a, h1, n1, ρ1, x1, hr1, r1, q1⟩ => by
    subst r1
    cases a with
    | true => exact iteT ⟨E, h1, n1, ρ1, er.mono x1, hr1, q1⟩
    | false => exact iteF (q1.okR hr1 rfl)⟩
theorem dw_or {a b : Expr} {r : List Expr} {pos : Pos} {fa fb : Env' → AH → Res Bool} (pa : DT X Γ W a fa) (pb : DW X Γ W (.BoolOp .Or (b :: r) pos) fb) : DW X Γ W (.BoolOp .Or (a :: b :: r) pos) (tvOr fa fb) :=
  PW.imp (pw_or pa pb) fun σ H Q ⟨E, h0, n, ρ, er, hr, q⟩ => ⟨E, h0, n, ρ, er, hr, (Post.bind (R := fun _ _ _ (a b : Bool) => a = b) q).imp fun x H1 ⟨a, h1, n1, ρ1, x1, hr1, r1, q1⟩ => by
    subst r1
    cases a with
    | true => exact iteT (q1.okR hr1 rfl)
    | false => exact iteF ⟨E, h1, n1, ρ1, er.mono x1, hr1, q1⟩⟩
/-- and, or, not as values: all but the last bools -/
def andV (a : Res D) (b : AH → Res D) : Res D := bindR a fun x h => match x with
  | .bl true => b h
  | .bl false => okR (.bl false) h
  | _ => none
def orV (a : Res D) (b : AH → Res D) : Res D := bindR a fun x h => match x with
  | .bl true => okR (.bl true) h
  | .bl false => b h
  | _ => none
def notV (a : Res D) : Res D := bindR a fun x h => match x with
  | .bl b => okR (.bl (!b)) h
  | _ => none
def evAnd (fa fb : Env' → AH → Res D) : Env' → AH → Res D := fun E h => andV (fa E h) (fb E)
def evOr (fa fb : Env' → AH → Res D) : Env' → AH → Res D := fun E h => orV (fa E h) (fb E)
def evNot (fa : Env' → AH → Res D) : Env' → AH → Res D := fun E h => notV (fa E h)
theorem de_and {a b : Expr} {r : List Expr} {pos : Pos} {fa fb : Env' → AH → Res D} (pa : DE X Γ W a fa) (pb : DE X Γ W (.BoolOp .And (b :: r) pos) fb) : DE X Γ W (.BoolOp .And (a :: b :: r) pos) (evAnd fa fb) :=
  PE.imp (pe_and pa pb) fun σ H Q ⟨E, h0, n, ρ, er, hr, q⟩ => ⟨E, h0, n, ρ, er, hr, (Post.bind (R := RelT X.w X.K Γ) q).imp fun x H1 ⟨a, h1, n1, ρ1, x1, hr1, r1, q1⟩ => by
    cases a with
    | bl b =>
      refine ⟨b, r1.bl_of, ?_⟩
      cases b with
      | true => exact iteT ⟨E, h1, n1, ρ1, er.mono x1, hr1, q1⟩
      | false => exact iteF (q1.okR hr1 (.bl _))
    | _ => exact q1.elim⟩
theorem de_or {a b : Expr} {r : List Expr} {pos : Pos} {fa fb : Env' → AH → Res D} (pa : DE X Γ W a fa) (pb : DE X Γ W (.BoolOp .Or (b :: r) pos) fb) : DE X Γ W (.BoolOp .Or (a :: b :: r) pos) (evOr fa fb) :=
  PE.imp (pe_or pa pb) fun σ H Q ⟨E, h0, n, ρ, er, hr, q⟩ => ⟨E, h0, n, ρ, er, hr, (Post.bind (R := RelT X.w X.K Γ) q).imp fun x H1 ⟨a, h1, n1, ρ1, x1, hr1, r1, q1⟩ => by
    cases a with
    | bl b =>
      refine ⟨b, r1.bl_of, ?_⟩
      cases b with
      | true => exact iteT (q1.okR hr1 (.bl _))
      | false => exact iteF ⟨E, h1, n1, ρ1, er.mono x1, hr1, q1⟩
    | _ => exact q1.elim⟩
theorem de_one {a : Expr} {op : BoolOp} {pos : Pos} {f : Env' → AH → Res D} (p : DE X Γ W a f) : DE X Γ W (.BoolOp op [a] pos) f := pe_one p
theorem de_not {a : Expr} {pos : Pos} {fa : Env' → AH → Res D} (pa : DE X Γ W a fa) : DE X Γ W (.UnaryOp .Not a pos) (evNot fa) :=
  PE.imp (pe_not pa) fun σ H Q ⟨E, h0, n, ρ, er, hr, q⟩ => ⟨E, h0, n, ρ, er, hr, (Post.bind (R := RelT X.w X.K Γ) q).imp fun x H1 ⟨a, h1, n1, ρ1, x1, hr1, r1, q1⟩ => by
    cases a with
    | bl b => exact ⟨b, r1.bl_of, q1.okR hr1 (.bl _)⟩
    | _ => exact q1.elim⟩
def iteR {α : Type} (t : Res Bool) (a b : AH → Res α) : Res α := bindR t fun x h => match x with
  | true => a h
  | false => b h
def evIte (fc : Env' → AH → Res Bool) (fa fb : Env' → AH → Res D) : Env' → AH → Res D := fun E h => iteR (fc E h) (fa E) (fb E)
theorem de_ite {c a b : Expr} {pos : Pos} {fc : Env' → AH → Res Bool} {fa fb : Env' → AH → Res D} (pc : DT X Γ W c fc) (pa : DE X Γ W a fa) (pb : DE X Γ W b fb) : DE X Γ W (.IfExp c a b pos) (evIte fc fa fb) :=
  PE.imp (pe_ifExp pc pa pb) fun σ H Q ⟨E, h0, n, ρ, er, hr, q⟩ => ⟨E, h0, n, ρ, er, hr, (Post.bind (R := fun _ _ _ (a b : Bool) => a = b) q).imp fun x H1 ⟨a, h1, n1, ρ1, x1, hr1, r1, q1⟩ => by
    subst r1
    cases a with
    | true => exact iteT ⟨E, h1, n1, ρ1, er.mono x1, hr1, q1⟩
    | false => exact iteF ⟨E, h1, n1, ρ1, er.mono x1, hr1, q1⟩⟩

/-! ### rows of values, displays -/
def avNil : Env' → AH → Res (List D) := fun _ h => okR [] h
def avCons (f : Env' → AH → Res D) (g : Env' → AH → Res (List D)) : Env' → AH → Res (List D) := fun E h => bindR (f E h) fun d h1 => bindR (g E h1) fun ds h2 => okR (d :: ds) h2
theorem da_nil : DA X Γ W [] avNil := PA.imp pa_nil fun σ H Q ⟨E, h0, n, ρ, er, hr, q⟩ => q.okR hr .nil
theorem da_cons {e : Expr} {es : List Expr} {f : Env' → AH → Res D} {g : Env' → AH → Res (List D)} (p : DE X Γ W e f) (q : DA X Γ W es g) (hs : starEach (e :: es) X.env = (false, eval e X.env) :: starEach es X.env) :
    DA X Γ W (e :: es) (avCons f g) :=
  PA.imp (pa_cons p q hs) fun σ H Q ⟨E, h0, n, ρ, er, hr, q⟩ => ⟨E, h0, n, ρ, er, hr, (Post.bind (R := RelT X.w X.K Γ) q).imp fun x H1 ⟨a, h1, n1, ρ1, x1, hr1, r1, q1⟩ =>
    ⟨E, h1, n1, ρ1, er.mono x1, hr1, (Post.bind (R := RelTs X.w X.K Γ) q1).imp fun xs H2 ⟨as, h2, n2, ρ2, x2, hr2, r2, q2⟩ => q2.okR hr2 (.cons (r1.mono x2) r2)⟩⟩
/-- *e: a tuple or a list as a value -/
def starOf (d : D) : Option (List D) := match d with
  | .tup ds => some ds
  | .lst ds => some ds
  | _ => none
theorem RelD.tup_seq {m : Nat} {ds : List D} {v : V} (r : RelD X.w X.K Γ n ρ H m (.tup ds) v) : ∃ a vs, v = .ref a ∧ SqT X.K H a vs ∧ RDs0 X Γ n ρ H ds vs := by
  cases r with
  | tup h f _ r => exact ⟨_, _, rfl, .of h, r⟩
  | tupZ h z f r => exact ⟨_, _, rfl, .inl (.inr ⟨_, h⟩), r⟩
  | tupK a b _ c e v r => exact ⟨_, _, rfl, .inr ⟨_, _, _, a, b, c, e, v⟩, r⟩
theorem RelD.lst_seq {m : Nat} {ds : List D} {v : V} (r : RelD X.w X.K Γ n ρ H m (.lst ds) v) : ∃ a vs, v = .ref a ∧ SqL X.K H a vs ∧ RDs0 X Γ n ρ H ds vs := by
  cases r with
  | lst h f r => exact ⟨_, _, rfl, .of h, r⟩
theorem star_seq {d : D} {ds : List D} {v : V} (e : starOf d = some ds) (r : RD X Γ n ρ H d v) : ∃ a vs, v = V.ref a ∧ (SqT X.K H a vs ∨ SqL X.K H a vs) ∧ RDs X Γ n ρ H ds vs := by
  cases d with
  | tup xs => cases e; obtain ⟨a, vs, h1, h2, h3⟩ := r.tup_seq; exact ⟨a, vs, h1, .inl h2, h3.up⟩
  | lst xs => cases e; obtain ⟨a, vs, h1, h2, h3⟩ := r.lst_seq; exact ⟨a, vs, h1, .inr h2, h3.up⟩
  | _ => cases e
def starR (d : D) (h : AH) : Res (List D) := match starOf d with
  | some ds => okR ds h
  | none => none
def avStar (f : Env' → AH → Res D) (g : Env' → AH → Res (List D)) : Env' → AH → Res (List D) := fun E h => bindR (f E h) fun d h1 => bindR (starR d h1) fun xs h2 => bindR (g E h2) fun ds h3 => okR (xs ++ ds) h3
theorem da_star {e : Expr} {p : Pos} {es : List Expr} {f : Env' → AH → Res D} {g : Env' → AH → Res (List D)} (pe : PE X e (tD X Γ W f)) (q : DA X Γ W es g) (hs : starEach (.Starred e p :: es) X.env = (true, eval e X.env) :: starEach es X.env) :
    DA X Γ W (.Starred e p :: es) (avStar f g) :=
  PA.imp (StX.pa_star pe q hs) fun σ H Q ⟨E, h0, n, ρ, er, hr, q⟩ => ⟨E, h0, n, ρ, er, hr, (Post.bind (R := RelT X.w X.K Γ) q).imp fun x H1 ⟨a, h1, n1, ρ1, x1, hr1, r1, q1⟩ => by
    unfold starR at q1
    cases e1 : starOf a with
    | none => rw [e1] at q1; exact q1.elim
    | some ds =>
      rw [e1] at q1
      obtain ⟨b, vs, h1', h2', h3'⟩ := star_seq e1 r1
      have q1 : PostA X Γ n1 ρ1 H1 (fun c d H' => W c d σ H') (bindR (g E h1) fun zs h3 => okR (ds ++ zs) h3) Q := q1
      exact ⟨b, vs, h1', h2', E, h1, n1, ρ1, er.mono x1, hr1, (Post.bind (R := RelTs X.w X.K Γ) q1).imp fun xs H2 ⟨as, h2, n2, ρ2, x2, hr2, r2, q2⟩ => q2.okR hr2 ((h3'.mono x2).append r2)⟩⟩
def szOk (ds : List D) : Bool := decide (ds.length ≤ sizeLine) && ds.all isV
theorem szOk_le {ds : List D} (h : szOk ds = true) : ds.length ≤ sizeLine := by
  unfold szOk at h
  rw [Bool.and_eq_true] at h
  exact of_decide_eq_true h.1
theorem szOk_v {ds : List D} (h : szOk ds = true) : ds.all isV = true := by
  unfold szOk at h
  rw [Bool.and_eq_true] at h
  exact h.2
def mkTup (ds : List D) (h : AH) : Res D := if szOk ds = true then okR (.tup ds) h else none
def mkLst (ds : List D) (h : AH) : Res D := if szOk ds = true then okR (.lst ds) h else none
def evTup (g : Env' → AH → Res (List D)) : Env' → AH → Res D := fun E h => bindR (g E h) mkTup
def evLst (g : Env' → AH → Res (List D)) : Env' → AH → Res D := fun E h => bindR (g E h) mkLst
/-- a new tuple, known as it is -/
abbrev tupObj (us : List Value) : Obj := { cls := .type "tuple", data := .seq us.toArray }
theorem inv_tup {pins : List (Addr × Obj)} {s : Shared} {us : List Value} {vs : List V} {tk : Nat} (I : Inv X pins σ H s) (r : Vals vs us) (z : vs.length ≤ sizeLine) : Inv X pins σ (upd H s.heap.objs.size (.frz (tupObj us) (.tup vs))) { s with heap := s.heap.push (tupObj us), toks := tk } :=
  I.laid (t' := tk) (fun b u e => Heap.get?_push_of_some _ e) (Nat.le_refl _) ⟨Heap.get?_push_size _ rfl, z, us, r, ⟨_, Heap.get?_push_size _ rfl, rfl, _, rfl⟩⟩
theorem post_tup {ds : List D} {vs : List V} {us : List Value} {Q : VK} {p : Addr} {Wx : Value → Option Addr → Hp → Prop} (hr : HR X Γ n ρ H h) (r : RDs0 X Γ n ρ H ds vs) (hp : H p = none) (q : PostE X Γ n ρ H Wx (okR (.tup ds) h) Q) : Q (.ref p) (upd H p (.frz (tupObj us) (.tup vs))) :=
  q _ n ρ _ (Ext.new hp) (hr.new hp) (.tupZ upd_same rfl (hr.fresh hp) (r.monoP (Ext.new hp)))
theorem de_tup {es : List Expr} {k : Nat} {pos : Pos} {g : Env' → AH → Res (List D)} (p : DA X Γ W es g) : DE X Γ W (.Tuple es k pos) (evTup g) := by
  refine ⟨fun pins s σ H Q I ⟨E, h0, n, ρ, er, hr, q⟩ => ?_⟩
  refine wpAny_Tuple_spliced (thn (p.run pos pins s σ H _ I ⟨E, h0, n, ρ, er, hr, Post.bind (R := RelTs X.w X.K Γ) q⟩) fun us s1 ⟨xs, H1, I1, r, ds, h1, n1, ρ1, x1, hr1, r1, q1⟩ => ?_)
  unfold mkTup at q1
  by_cases hz : szOk ds = true
  · rw [if_pos hz] at q1
    have z : xs.length ≤ sizeLine := by rw [← r1.length]; exact szOk_le hz
    exact ⟨by rw [← r.length]; exact z, .ref s1.heap.objs.size, _, inv_tup (tk := s1.toks) I1 r z, rfl, post_tup hr1 (r1.down (szOk_v hz)) (I1.hok.fresh (Nat.le_refl _)) q1⟩
  · rw [if_neg hz] at q1; exact q1.elim
theorem de_lst {es : List Expr} {pos : Pos} {g : Env' → AH → Res (List D)} (p : DA X Γ W es g) : DE X Γ W (.List es pos) (evLst g) :=
  PE.imp (pe_lst p) fun σ H Q ⟨E, h0, n, ρ, er, hr, q⟩ => ⟨E, h0, n, ρ, er, hr, (Post.bind (R := RelTs X.w X.K Γ) q).imp fun xs H1 ⟨ds, h1, n1, ρ1, x1, hr1, r1, q1⟩ => by
    unfold mkLst at q1
    by_cases hz : szOk ds = true
    · rw [if_pos hz] at q1
      refine ⟨by rw [← r1.length]; exact szOk_le hz, fun p hp => ?_⟩
      exact q1 _ n1 ρ1 _ (Ext.new hp) (hr1.new hp) (.lst upd_same (hr1.fresh hp) ((r1.down (szOk_v hz)).monoP (Ext.new hp)))
    · rw [if_neg hz] at q1; exact q1.elim⟩
theorem ref_new {H1 : Hp} {o : HO} {p : Addr} {h1 : AH} (hr1 : HR X Γ n ρ H h1) : RD X Γ (n + 1) (put ρ n p) (upd H1 p o) (.ref h1.length) (.ref p) := by
  have := RelD.ref (w := X.w) (K := X.K) (Γ := Γ) (n := n + 1) (ρ := put ρ n p) (H := upd H1 p o) (m := n + 1) (i := n) (Nat.lt_succ_self _)
  rw [put_same] at this
  rw [hr1.len]
  exact this
/-- a list that may be changed -/
def mkLstM (ds : List D) (h : AH) : Res D := if szOk ds = true then okR (.ref h.length) (h ++ [.lst ds]) else none
def evLstM (g : Env' → AH → Res (List D)) : Env' → AH → Res D := fun E h => bindR (g E h) mkLstM
theorem de_lstM {es : List Expr} {pos : Pos} {g : Env' → AH → Res (List D)} (p : DA X Γ W es g) : DE X Γ W (.List es pos) (evLstM g) :=
  PE.imp (pe_lst p) fun σ H Q ⟨E, h0, n, ρ, er, hr, q⟩ => ⟨E, h0, n, ρ, er, hr, (Post.bind (R := RelTs X.w X.K Γ) q).imp fun xs H1 ⟨ds, h1, n1, ρ1, x1, hr1, r1, q1⟩ => by
    unfold mkLstM at q1
    by_cases hz : szOk ds = true
    · rw [if_pos hz] at q1
      refine ⟨by rw [← r1.length]; exact szOk_le hz, fun p hp => ?_⟩
      have x2 := Ext.track (n := n1) (ρ := ρ1) (o := .lst xs) hp
      exact q1 _ (n1 + 1) (put ρ1 n1 p) _ x2 (hr1.track hp ⟨put_nfz, xs, upd_same, (r1.down (szOk_v hz)).monoP x2⟩) (ref_new hr1)
    · rw [if_neg hz] at q1; exact q1.elim⟩
end
end MP
set_option Elab.async false
set_option linter.all false
set_option maxRecDepth 100000
set_option maxHeartbeats 4000000
/-! MPC: data: what values read as; ==, <, in. -/
namespace MP
open PySem PySem.Spec PyProof.Rows L2

def allM {α β : Type} (f : α → Option β) : List α → Option (List β)
  | [] => some []
  | x :: xs => match f x, allM f xs with
    | some a, some b => some (a :: b)
    | _, _ => none
/-- plain data, to a depth -/
def toD : Nat → D → Option PyData
  | 0, d => match d with
    | .non => some .none
    | .bl b => some (.bool b)
    | .int i => some (.int i)
    | .str x => some (.str x)
    | _ => none
  | n + 1, d => match d with
    | .non => some .none
    | .bl b => some (.bool b)
    | .int i => some (.int i)
    | .str x => some (.str x)
    | .tup xs => match allM (toD n) xs with
      | some ys => some (.tuple ys)
      | none => none
    | .lst xs => match allM (toD n) xs with
      | some ys => some (.list ys)
      | none => none
    | _ => none
/-- a changeable list as it stands -/
def vw (h : AH) (d : D) : D := match d with
  | .ref i => match h[i]? with
    | some (.lst xs) => .lst xs
    | some (.fz d) => d
    | _ => .ref i
  | .scr ns => .lst (ns.map .int)
  | d => d
abbrev dp : Nat := 16
def isNoneP (p : PyData) : Bool := match p with
  | .none => true
  | _ => false

theorem allM_plain {f : D → Option PyData} (h : ∀ d p, f d = some p → p.plain = true) : ∀ {ds : List D} {ps : List PyData}, allM f ds = some ps → PyData.plainAll ps = true
  | [], _, e => by cases e; rfl
  | d :: ds, ps, e => by
    unfold allM at e
    cases e1 : f d with
    | none => rw [e1] at e; cases e
    | some a =>
      cases e2 : allM f ds with
      | none => rw [e1, e2] at e; cases e
      | some b =>
        rw [e1, e2] at e
        cases e
        rw [PyData.plainAll, h d a e1, allM_plain h e2]; rfl
theorem toD_plain : ∀ {n : Nat} {d : D} {p : PyData}, toD n d = some p → p.plain = true
  | 0, d, p, e => by cases d <;> simp [toD] at e <;> subst e <;> rfl
  | n + 1, d, p, e => by
    cases d with
    | tup xs =>
      simp only [toD] at e
      cases e1 : allM (toD n) xs with
      | none => rw [e1] at e; cases e
      | some ys => rw [e1] at e; cases e; rw [PyData.plain]; exact allM_plain (fun d p q => toD_plain q) e1
    | lst xs =>
      simp only [toD] at e
      cases e1 : allM (toD n) xs with
      | none => rw [e1] at e; cases e
      | some ys => rw [e1] at e; cases e; rw [PyData.plain]; exact allM_plain (fun d p q => toD_plain q) e1
    | _ => simp [toD] at e <;> subst e <;> rfl
theorem allM_depth {f : D → Option PyData} {k : Nat} (h : ∀ d p, f d = some p → p.depth ≤ k) : ∀ {ds : List D} {ps : List PyData}, allM f ds = some ps → PyData.depthAll ps ≤ k
  | [], _, e => by cases e; exact Nat.zero_le _
  | d :: ds, ps, e => by
    unfold allM at e
    cases e1 : f d with
    | none => rw [e1] at e; cases e
    | some a =>
      cases e2 : allM f ds with
      | none => rw [e1, e2] at e; cases e
      | some b =>
        rw [e1, e2] at e
        cases e
        rw [PyData.depthAll]
        exact Nat.max_le.mpr ⟨h d a e1, allM_depth h e2⟩
theorem toD_depth : ∀ {n : Nat} {d : D} {p : PyData}, toD n d = some p → p.depth ≤ n
  | 0, d, p, e => by cases d <;> simp [toD] at e <;> subst e <;> exact Nat.le_refl _
  | n + 1, d, p, e => by
    cases d with
    | tup xs =>
      simp only [toD] at e
      cases e1 : allM (toD n) xs with
      | none => rw [e1] at e; cases e
      | some ys => rw [e1] at e; cases e; rw [PyData.depth]; exact Nat.succ_le_succ (allM_depth (fun d p q => toD_depth q) e1)
    | lst xs =>
      simp only [toD] at e
      cases e1 : allM (toD n) xs with
      | none => rw [e1] at e; cases e
      | some ys => rw [e1] at e; cases e; rw [PyData.depth]; exact Nat.succ_le_succ (allM_depth (fun d p q => toD_depth q) e1)
    | _ => simp [toD] at e <;> subst e <;> exact Nat.zero_le _

section
variable {X : Cx} {Γ : Gm} {pins : List (Addr × Obj)} {σ : L2.St} {H : Hp} {s : Shared} {n : Nat} {ρ : Rho} {h : AH}
theorem readsAll_of {k m : Nat} (ih : ∀ (d : D) (p : PyData) (v : V) (u : Value), toD k d = some p → RelD X.w X.K Γ n ρ H m d v → RelV v u → ∃ as, Reads s.heap u p as) :
    ∀ {ds : List D} {ps : List PyData} {vs : List V} {us : List Value}, allM (toD k) ds = some ps → RelDs X.w X.K Γ n ρ H m ds vs → Vals vs us → ∃ as, ReadsAll s.heap us ps as
  | [], _, _, _, e, .nil, .nil => by cases e; exact ⟨_, .nil⟩
  | d :: ds, ps, _, _, e, .cons r t, .cons rv tv => by
    unfold allM at e
    cases e1 : toD k d with
    | none => rw [e1] at e; cases e
    | some a =>
      cases e2 : allM (toD k) ds with
      | none => rw [e1, e2] at e; cases e
      | some b =>
        rw [e1, e2] at e
        cases e
        obtain ⟨as, q1⟩ := ih d a _ _ e1 r rv
        obtain ⟨bs, q2⟩ := readsAll_of ih e2 t tv
        exact ⟨_, .cons q1 q2⟩
theorem reads_of (I : Inv X pins σ H s) : ∀ (k m : Nat) (d : D) (p : PyData) (v : V) (u : Value), toD k d = some p → RelD X.w X.K Γ n ρ H m d v → RelV v u → ∃ as, Reads s.heap u p as
  | 0, m, d, p, v, u, e, r, rv => by
    cases r <;> simp [toD] at e <;> subst e
    · cases rv; exact ⟨_, .none⟩
    · cases rv; exact ⟨_, .bool _⟩
    · obtain ⟨t, rfl⟩ := rv; exact ⟨_, .int _ t⟩
    · obtain ⟨t, rfl⟩ := rv; exact ⟨_, .str _ t⟩
  | k + 1, m, d, p, v, u, e, r, rv => by
    cases d with
    | tup xs =>
      simp only [toD] at e
      cases e1 : allM (toD k) xs with
      | none => rw [e1] at e; cases e
      | some ys =>
        rw [e1] at e; cases e
        obtain ⟨a, vs, rfl, hs, rs⟩ := RelD.tup_seq r
        cases rv
        obtain ⟨its, rv, ⟨o, ho, hc, m, hd⟩, _⟩ := I.tuple hs
        obtain ⟨as, q⟩ := readsAll_of (reads_of I k 0) e1 rs rv
        exact ⟨_, .tuple ho hc hd q⟩
    | lst xs =>
      simp only [toD] at e
      cases e1 : allM (toD k) xs with
      | none => rw [e1] at e; cases e
      | some ys =>
        rw [e1] at e; cases e
        obtain ⟨a, vs, rfl, hs, rs⟩ := RelD.lst_seq r
        cases rv
        obtain ⟨its, rv, ⟨o, m, ho, hc, _, hd⟩, _⟩ := I.list hs
        obtain ⟨as, q⟩ := readsAll_of (reads_of I k 0) e1 rs rv
        exact ⟨_, .list ho hc hd q⟩
    | non => simp [toD] at e; subst e; cases r; cases rv; exact ⟨_, .none⟩
    | bl b => simp [toD] at e; subst e; cases r; cases rv; exact ⟨_, .bool _⟩
    | int i => simp [toD] at e; subst e; cases r; obtain ⟨t, rfl⟩ := rv; exact ⟨_, .int _ t⟩
    | str x => simp [toD] at e; subst e; cases r; obtain ⟨t, rfl⟩ := rv; exact ⟨_, .str _ t⟩
    | _ => simp [toD] at e
theorem relInts {m : Nat} : ∀ (ns : List Int), RelDs X.w X.K Γ n ρ H m (ns.map .int) (ns.map .int)
  | [] => .nil
  | i :: ns => .cons (.int i) (relInts ns)
/-- a list, changeable or not, as a sequence -/
theorem vw_seq {d : D} {xs : List D} {v : V} (hr : HR X Γ n ρ H h) (r : RD X Γ n ρ H d v) (e : vw h d = .lst xs) : ∃ a vs, v = .ref a ∧ SqL X.K H a vs ∧ RDs0 X Γ n ρ H xs vs := by
  cases d with
  | lst ys => simp only [vw] at e; cases e; exact RelD.lst_seq r
  | ref i =>
    simp only [vw] at e
    cases q : h[i]? with
    | none => rw [q] at e; cases e
    | some o =>
      cases r with
      | ref hi =>
        have z := hr.at_ i o q
        cases o with
        | lst ys => rw [q] at e; cases e; obtain ⟨_, vs, h1, h2⟩ := z; exact ⟨_, vs, rfl, .of h1, h2⟩
        | fz d => rw [q] at e; simp only at e; subst e; exact RelD.lst_seq z.2.2
        | _ => rw [q] at e; cases e
  | scr ns =>
    simp only [vw] at e
    cases e
    cases r with
    | scr z => exact ⟨_, _, rfl, z.sq, relInts ns⟩
  | _ => simp only [vw] at e; cases e
/-- what is no name, or a frozen one: a value -/
theorem vw_val {d d' : D} {v : V} (hr : HR X Γ n ρ H h) (r : RD X Γ n ρ H d v) (e : vw h d = d') (hn : ∀ i, d' ≠ .ref i) (hl : ∀ xs, d' ≠ .lst xs) : RD0 X Γ n ρ H d' v := by
  cases d with
  | ref i =>
    simp only [vw] at e
    cases q : h[i]? with
    | none => rw [q] at e; exact absurd e.symm (hn i)
    | some o =>
      cases r with
      | ref hi =>
        have z := hr.at_ i o q
        cases o with
        | lst ys => rw [q] at e; exact absurd e.symm (hl ys)
        | fz d => rw [q] at e; simp only at e; subst e; exact z.2.2
        | _ => rw [q] at e; exact absurd e.symm (hn i)
  | scr ns => exact absurd e.symm (hl _)
  | _ => simp only [vw] at e; subst e; exact r.down rfl
theorem reads_vw (I : Inv X pins σ H s) (hr : HR X Γ n ρ H h) {k : Nat} {d : D} {p : PyData} {v : V} {u : Value} (e : toD (k + 1) (vw h d) = some p) (r : RD X Γ n ρ H d v) (rv : RelV v u) : ∃ as, Reads s.heap u p as := by
  cases d with
  | scr ns =>
    obtain ⟨a, vs, rfl, hs, rs⟩ := vw_seq (xs := ns.map .int) hr r rfl
    simp only [vw, toD] at e
    cases e1 : allM (toD k) (ns.map .int) with
    | none => rw [e1] at e; cases e
    | some ys =>
      rw [e1] at e; cases e
      cases rv
      obtain ⟨its, rv, ⟨o, m, ho, hc, _, hd⟩, _⟩ := I.list hs
      obtain ⟨as, q⟩ := readsAll_of (reads_of I k 0) e1 rs rv
      exact ⟨_, .list ho hc hd q⟩
  | ref i =>
    cases q : vw h (.ref i) with
    | lst xs =>
      obtain ⟨a, vs, rfl, hs, rs⟩ := vw_seq hr r q
      rw [q] at e
      simp only [toD] at e
      cases e1 : allM (toD k) xs with
      | none => rw [e1] at e; cases e
      | some ys =>
        rw [e1] at e; cases e
        cases rv
        obtain ⟨its, rv, ⟨o, m, ho, hc, _, hd⟩, _⟩ := I.list hs
        obtain ⟨as, q⟩ := readsAll_of (reads_of I k 0) e1 rs rv
        exact ⟨_, .list ho hc hd q⟩
    | ref j => rw [q] at e; simp [toD] at e
    | _ =>
      have z := vw_val hr r q (fun _ => by intro z; cases z) (fun _ => by intro z; cases z)
      rw [q] at e
      exact reads_of I (k + 1) 0 _ p v u e z rv
  | _ => exact reads_of I (k + 1) n _ p v u e r rv

/-! ### comparisons -/
def eqD (h : AH) (a b : D) : Option Bool := match toD dp (vw h a), toD dp (vw h b) with
  | some x, some y => some (PyData.eqv x y)
  | _, _ => none
def opB (r : Option Bool) (h : AH) : Option (D × AH) := match r with
  | some b => some (.bl b, h)
  | none => none
def opEq : D → D → AH → Option (D × AH) := fun a b h => opB (eqD h a b) h
def opNe : D → D → AH → Option (D × AH) := fun a b h => opB (match eqD h a b with | some r => some (!r) | none => none) h
theorem postB {b : Bool} {Q : VK} (hr : HR X Γ n ρ H h) (q : PostO X Γ n ρ H (opB (some b) h) Q) : Q (.bl b) H := q _ n ρ H Ext.refl hr (.bl b)
theorem eq_ok (hu : X.A.units + 64 < cLine) : OpR X (compareOp .Eq) (rD X Γ opEq) := by
  intro pins s σ H x y v u Q I rx ry ⟨h, n, ρ, a, b, hr, ra, rb, q⟩
  unfold opEq eqD at q
  cases e1 : toD dp (vw h a) with
  | none => rw [e1] at q; exact q.elim
  | some p =>
    cases e2 : toD dp (vw h b) with
    | none => rw [e1, e2] at q; exact q.elim
    | some p' =>
      rw [e1, e2] at q
      obtain ⟨as, r1⟩ := reads_vw I hr e1 ra rx
      obtain ⟨bs, r2⟩ := reads_vw I hr e2 rb ry
      have d1 : p.depth ≤ 16 := toD_depth e1
      have : min p.depth p'.depth ≤ p.depth := Nat.min_le_left _ _
      exact SeqAt.eq_plain r1 r2 (toD_plain e1) (toD_plain e2) (by omega) ⟨.bl _, H, I, rfl, postB hr q⟩
theorem ne_ok (hu : X.A.units + 64 < cLine) : OpR X (compareOp .NotEq) (rD X Γ opNe) := by
  intro pins s σ H x y v u Q I rx ry ⟨h, n, ρ, a, b, hr, ra, rb, q⟩
  unfold opNe eqD at q
  cases e1 : toD dp (vw h a) with
  | none => rw [e1] at q; exact q.elim
  | some p =>
    cases e2 : toD dp (vw h b) with
    | none => rw [e1, e2] at q; exact q.elim
    | some p' =>
      rw [e1, e2] at q
      obtain ⟨as, r1⟩ := reads_vw I hr e1 ra rx
      obtain ⟨bs, r2⟩ := reads_vw I hr e2 rb ry
      have d1 : p.depth ≤ 16 := toD_depth e1
      have : min p.depth p'.depth ≤ p.depth := Nat.min_le_left _ _
      exact SeqAt.ne_plain r1 r2 (toD_plain e1) (toD_plain e2) (by omega) ⟨.bl _, H, I, rfl, postB hr q⟩
/-- a < b of data that can be compared -/
def ltD (h : AH) (a b : D) : Option Bool := match toD dp (vw h a), toD dp (vw h b) with
  | some x, some y => if (PySem.W.alike x y && !isNoneP x) = true then some (PySem.W.dataLt x y) else none
  | _, _ => none
theorem ltD_some {a b : D} {r : Bool} (e : ltD h a b = some r) : ∃ x y, toD dp (vw h a) = some x ∧ toD dp (vw h b) = some y ∧ PySem.W.alike x y = true ∧ x ≠ .none ∧ r = PySem.W.dataLt x y := by
  unfold ltD at e
  cases e1 : toD dp (vw h a) with
  | none => rw [e1] at e; cases e
  | some p =>
    cases e2 : toD dp (vw h b) with
    | none => rw [e1, e2] at e; cases e
    | some p' =>
      rw [e1, e2] at e
      simp only at e
      split at e
      · rename_i hc
        obtain ⟨c1, c2⟩ := Bool.and_eq_true_iff.mp hc
        refine ⟨p, p', rfl, rfl, c1, fun z => ?_, (Option.some.inj e).symm⟩
        subst z
        cases c2
      · cases e
theorem alike_swap : ∀ (x y : PyData), PySem.W.alike x y = true → x ≠ .none → y ≠ .none := by
  intro x y h hx hy
  subst hy
  cases x with
  | none => exact hx rfl
  | _ => simp [PySem.W.alike] at h
def opLt : D → D → AH → Option (D × AH) := fun a b h => opB (ltD h a b) h
def opGe : D → D → AH → Option (D × AH) := fun a b h => opB (match ltD h a b with | some r => some (!r) | none => none) h
/-- b < a, told with a's side alike -/
def gtD (h : AH) (a b : D) : Option Bool := match toD dp (vw h a), toD dp (vw h b) with
  | some x, some y => if (PySem.W.alike x y && !isNoneP x) = true then some (PySem.W.dataLt y x) else none
  | _, _ => none
theorem gtD_some {a b : D} {r : Bool} (e : gtD h a b = some r) : ∃ x y, toD dp (vw h a) = some x ∧ toD dp (vw h b) = some y ∧ PySem.W.alike x y = true ∧ x ≠ .none ∧ r = PySem.W.dataLt y x := by
  unfold gtD at e
  cases e1 : toD dp (vw h a) with
  | none => rw [e1] at e; cases e
  | some p =>
    cases e2 : toD dp (vw h b) with
    | none => rw [e1, e2] at e; cases e
    | some p' =>
      rw [e1, e2] at e
      simp only at e
      split at e
      · rename_i hc
        obtain ⟨c1, c2⟩ := Bool.and_eq_true_iff.mp hc
        refine ⟨p, p', rfl, rfl, c1, fun z => ?_, (Option.some.inj e).symm⟩
        subst z
        cases c2
      · cases e
def opGt : D → D → AH → Option (D × AH) := fun a b h => opB (gtD h a b) h
def opLe : D → D → AH → Option (D × AH) := fun a b h => opB (match gtD h a b with | some r => some (!r) | none => none) h
theorem lt_ok (hu : X.A.units + 64 < cLine) : OpR X (compareOp .Lt) (rD X Γ opLt) := by
  intro pins s σ H x y v u Q I rx ry ⟨h, n, ρ, a, b, hr, ra, rb, q⟩
  unfold opLt at q
  cases e : ltD h a b with
  | none => rw [e] at q; exact q.elim
  | some r =>
    rw [e] at q
    obtain ⟨p, p', e1, e2, al, nn, rfl⟩ := ltD_some e
    obtain ⟨as, r1⟩ := reads_vw I hr e1 ra rx
    obtain ⟨bs, r2⟩ := reads_vw I hr e2 rb ry
    have d1 : p.depth ≤ 16 := toD_depth e1
    have : min p.depth p'.depth ≤ p.depth := Nat.min_le_left _ _
    exact PySem.W.lt_data r1 r2 al nn (by omega) ⟨.bl _, H, I, rfl, postB hr q⟩
theorem ge_ok (hu : X.A.units + 64 < cLine) : OpR X (compareOp .GtE) (rD X Γ opGe) := by
  intro pins s σ H x y v u Q I rx ry ⟨h, n, ρ, a, b, hr, ra, rb, q⟩
  unfold opGe at q
  cases e : ltD h a b with
  | none => rw [e] at q; exact q.elim
  | some r =>
    rw [e] at q
    obtain ⟨p, p', e1, e2, al, nn, rfl⟩ := ltD_some e
    obtain ⟨as, r1⟩ := reads_vw I hr e1 ra rx
    obtain ⟨bs, r2⟩ := reads_vw I hr e2 rb ry
    have d1 : p.depth ≤ 16 := toD_depth e1
    have : min p.depth p'.depth ≤ p.depth := Nat.min_le_left _ _
    exact PySem.W.ge_data r1 r2 al nn (by omega) ⟨.bl _, H, I, rfl, postB hr q⟩
theorem gt_ok (hu : X.A.units + 64 < cLine) : OpR X (compareOp .Gt) (rD X Γ opGt) := by
  intro pins s σ H x y v u Q I rx ry ⟨h, n, ρ, a, b, hr, ra, rb, q⟩
  unfold opGt at q
  cases e : gtD h a b with
  | none => rw [e] at q; exact q.elim
  | some r =>
    rw [e] at q
    obtain ⟨p, p', e1, e2, al, nn, rfl⟩ := gtD_some e
    obtain ⟨as, r1⟩ := reads_vw I hr e1 ra rx
    obtain ⟨bs, r2⟩ := reads_vw I hr e2 rb ry
    have d1 : p.depth ≤ 16 := toD_depth e1
    have : min p.depth p'.depth ≤ p.depth := Nat.min_le_left _ _
    exact PySem.W.gt_data r1 r2 al nn (by omega) ⟨.bl _, H, I, rfl, postB hr q⟩
theorem le_ok (hu : X.A.units + 64 < cLine) : OpR X (compareOp .LtE) (rD X Γ opLe) := by
  intro pins s σ H x y v u Q I rx ry ⟨h, n, ρ, a, b, hr, ra, rb, q⟩
  unfold opLe at q
  cases e : gtD h a b with
  | none => rw [e] at q; exact q.elim
  | some r =>
    rw [e] at q
    obtain ⟨p, p', e1, e2, al, nn, rfl⟩ := gtD_some e
    obtain ⟨as, r1⟩ := reads_vw I hr e1 ra rx
    obtain ⟨bs, r2⟩ := reads_vw I hr e2 rb ry
    have d1 : p.depth ≤ 16 := toD_depth e1
    have : min p.depth p'.depth ≤ p.depth := Nat.min_le_left _ _
    exact PySem.W.le_data r1 r2 al nn (by omega) ⟨.bl _, H, I, rfl, postB hr q⟩
/-! is None, is not None -/
def isNon (d : D) : Bool := match d with
  | .non => true
  | _ => false
def opIs : D → D → AH → Option (D × AH) := fun a b h => match b with
  | .non => some (.bl (isNon a), h)
  | _ => none
def opIsNot : D → D → AH → Option (D × AH) := fun a b h => match b with
  | .non => some (.bl (!isNon a), h)
  | _ => none
theorem RelD.non_iff {d : D} {v : V} (r : RD X Γ n ρ H d v) : decide (v = .non) = isNon d := by
  cases r <;> simp [isNon]
theorem is_ok : OpR X (compareOp .Is) (rD X Γ opIs) := by
  intro pins s σ H x y v u Q I rx ry ⟨h, n, ρ, a, b, hr, ra, rb, q⟩
  cases b with
  | non =>
    cases rb
    refine op_isN pins s σ H x .non v u Q I rx ry ⟨rfl, ?_⟩
    rw [ra.non_iff]
    exact q _ n ρ H Ext.refl hr (.bl _)
  | _ => exact q.elim
theorem isnot_ok : OpR X (compareOp .IsNot) (rD X Γ opIsNot) := by
  intro pins s σ H x y v u Q I rx ry ⟨h, n, ρ, a, b, hr, ra, rb, q⟩
  cases b with
  | non =>
    cases rb
    refine op_notN pins s σ H x .non v u Q I rx ry ⟨rfl, ?_⟩
    rw [ra.non_iff]
    exact q _ n ρ H Ext.refl hr (.bl _)
  | _ => exact q.elim
/-! ints -/
def opAdd : D → D → AH → Option (D × AH) := fun a b h => match a, b with
  | .int i, .int j => some (.int (i + j), h)
  | _, _ => none
end
end MP
set_option Elab.async false
set_option linter.all false
set_option maxRecDepth 100000
set_option maxHeartbeats 4000000
/-! MPD: sums, items, slices, in. -/
namespace MP
open PySem PySem.Spec PyProof.Rows L2
section
variable {X : Cx} {Γ : Gm} {W : WX} {pins : List (Addr × Obj)} {σ : L2.St} {H : Hp} {s : Shared} {n : Nat} {ρ : Rho} {h : AH}

/-- a new tuple, a new list (a value) -/
theorem postTup {ds : List D} {vs : List V} {Q : VK} {p : Addr} (hr : HR X Γ n ρ H h) (r : RDs0 X Γ n ρ H ds vs) (hp : H p = none) (z : allUP ds = false) (q : PostO X Γ n ρ H (some (.tup ds, h)) Q) : Q (.ref p) (upd H p (.tup vs)) :=
  q _ n ρ _ (Ext.new hp) (hr.new hp) (.tup upd_same (hr.fresh hp) z (r.monoP (Ext.new hp)))
theorem postLst {ds : List D} {vs : List V} {Q : VK} {p : Addr} (hr : HR X Γ n ρ H h) (r : RDs0 X Γ n ρ H ds vs) (hp : H p = none) (q : PostO X Γ n ρ H (some (.lst ds, h)) Q) : Q (.ref p) (upd H p (.lst vs)) :=
  q _ n ρ _ (Ext.new hp) (hr.new hp) (.lst upd_same (hr.fresh hp) (r.monoP (Ext.new hp)))
theorem postVal {d : D} {v : V} {Q : VK} (hr : HR X Γ n ρ H h) (r : RD X Γ n ρ H d v) (q : PostO X Γ n ρ H (some (d, h)) Q) : Q v H := q v n ρ H Ext.refl hr r
theorem RelDs.inj_nil {m : Nat} {vs : List V} (r : RelDs X.w X.K Γ n ρ H m [] vs) : vs = [] := by cases r; rfl
theorem RelDs.nil_iff {m : Nat} {ds : List D} {vs : List V} (r : RelDs X.w X.K Γ n ρ H m ds vs) : vs = [] ↔ ds = [] := by
  cases r <;> simp
/-- a list that is not locked -/
def vwM (h : AH) (d : D) : Option (List D) := match d with
  | .lst xs => some xs
  | .ref i => match h[i]? with
    | some (.lst xs) => some xs
    | some (.fz (.lst xs)) => some xs
    | _ => none
  | _ => none
theorem vwM_at {d : D} {xs : List D} {v : V} (hr : HR X Γ n ρ H h) (r : RD X Γ n ρ H d v) (e : vwM h d = some xs) : ∃ a vs, v = .ref a ∧ H a = some (.lst vs) ∧ RDs0 X Γ n ρ H xs vs := by
  cases d with
  | lst ys =>
    simp only [vwM] at e
    cases e
    cases r with
    | lst h1 f r => exact ⟨_, _, rfl, h1, r⟩
  | ref i =>
    simp only [vwM] at e
    cases q : h[i]? with
    | none => rw [q] at e; cases e
    | some o =>
      cases r with
      | ref hi =>
        have z := hr.at_ i o q
        cases o with
        | lst ys => rw [q] at e; cases e; obtain ⟨_, vs, h1, h2⟩ := z; exact ⟨_, vs, rfl, h1, h2⟩
        | fz d =>
          rw [q] at e
          cases d with
          | lst ys =>
            cases e
            generalize hg : ρ.to i = a at z
            cases z.2.2 with
            | lst h1 f r => exact ⟨_, _, rfl, h1, r⟩
          | _ => cases e
        | _ => rw [q] at e; cases e
  | _ => simp only [vwM] at e; cases e

/-! ### + - * // % -/
def addD : D → D → AH → Option (D × AH) := fun a b h => match a, b with
  | .int i, .int j => some (.int (i + j), h)
  | .str x, .str y => if x.length + y.length ≤ sizeLine then some (.str (x ++ y), h) else none
  | .tup xs, .tup ys => if (decide (xs.length + ys.length ≤ sizeLine) && (!allUP (xs ++ ys) || (xs.isEmpty || ys.isEmpty))) = true then some (.tup (xs ++ ys), h) else none
  | a, b => match vwM h a, vwM h b with
    | some xs, some ys => if xs.length + ys.length ≤ sizeLine then some (.lst (xs ++ ys), h) else none
    | _, _ => none
theorem add_lst {a b : D} {x y : V} {v u : Value} {Q : VK} (I : Inv X pins σ H s) (rx : RelV x v) (ry : RelV y u) (hr : HR X Γ n ρ H h) (ra : RD X Γ n ρ H a x) (rb : RD X Γ n ρ H b y)
    (q : PostO X Γ n ρ H (match vwM h a, vwM h b with
    | some xs, some ys => if xs.length + ys.length ≤ sizeLine then some (.lst (xs ++ ys), h) else none
    | _, _ => none) Q) : wpAny (model X.prog X.w) X.A (binaryOp .Add v u) (EP X pins σ Q) X.xe s := by
  cases e1 : vwM h a with
  | none => rw [e1] at q; exact q.elim
  | some xs =>
    cases e2 : vwM h b with
    | none => rw [e1, e2] at q; exact q.elim
    | some ys =>
      rw [e1, e2] at q
      simp only at q
      by_cases hz : xs.length + ys.length ≤ sizeLine
      · rw [if_pos hz] at q
        obtain ⟨l, vs, rfl, h1, r1⟩ := vwM_at hr ra e1
        obtain ⟨m, us, rfl, h2, r2⟩ := vwM_at hr rb e2
        exact op_cat pins s σ H _ _ v u Q I rx ry ⟨l, m, vs, us, rfl, rfl, h1, h2, by rw [← r1.length, ← r2.length]; exact hz, fun p hp => postLst hr (r1.append r2) hp q⟩
      · rw [if_neg hz] at q; exact q.elim
theorem add_ok : OpR X (binaryOp .Add) (rD X Γ addD) := by
  intro pins s σ H x y v u Q I rx ry ⟨h, n, ρ, a, b, hr, ra, rb, q⟩
  cases a with
  | int i =>
    cases b with
    | int j =>
      cases ra; cases rb
      exact op_add pins s σ H _ _ v u Q I rx ry ⟨i, j, rfl, rfl, postVal hr (.int _) q⟩
    | _ => exact q.elim
  | str i =>
    cases b with
    | str j =>
      cases ra; cases rb
      simp only [addD] at q
      by_cases hz : i.length + j.length ≤ sizeLine
      · rw [if_pos hz] at q
        exact op_add_str pins s σ H _ _ v u Q I rx ry ⟨i, j, rfl, rfl, hz, postVal hr (.str _) q⟩
      · rw [if_neg hz] at q; exact q.elim
    | _ => exact q.elim
  | tup xs =>
    cases b with
    | tup ys =>
      simp only [addD] at q
      by_cases hz : (decide (xs.length + ys.length ≤ sizeLine) && (!allUP (xs ++ ys) || (xs.isEmpty || ys.isEmpty))) = true
      · rw [if_pos hz] at q
        obtain ⟨z1, z2⟩ := Bool.and_eq_true_iff.mp hz
        have z1 := of_decide_eq_true z1
        obtain ⟨l, vs, rfl, h1, r1⟩ := RelD.tup_seq ra
        obtain ⟨m, us, rfl, h2, r2⟩ := RelD.tup_seq rb
        refine op_catA pins s σ H _ _ v u Q I rx ry ⟨l, m, vs, us, rfl, rfl, h1, h2, by rw [← r1.length, ← r2.length]; exact z1, fun e => ?_, fun _ e => ?_, fun n1 n2 p hp => postTup hr (r1.append r2) hp ?_ q⟩
        · have e' := r1.nil_iff.mp e
          subst e'
          exact postVal hr rb q
        · have e' := r2.nil_iff.mp e
          subst e'
          rw [List.append_nil] at q
          exact postVal hr ra q
        · have k1 : xs ≠ [] := fun e => n1 (r1.nil_iff.mpr e)
          have k2 : ys ≠ [] := fun e => n2 (r2.nil_iff.mpr e)
          simp only [Bool.or_eq_true, Bool.not_eq_true', List.isEmpty_iff] at z2
          rcases z2 with y | y | y
          · exact y
          · exact absurd y k1
          · exact absurd y k2
      · rw [if_neg hz] at q; exact q.elim
    | _ => exact q.elim
  | lst xs => cases b <;> exact add_lst I rx ry hr ra rb q
  | ref i => cases b <;> exact add_lst I rx ry hr ra rb q
  | non => cases b <;> exact q.elim
  | bl _ => cases b <;> exact q.elim
  | dct _ => cases b <;> exact q.elim
  | obj _ _ => cases b <;> exact q.elim
  | scr _ => cases b <;> exact q.elim
def subD : D → D → AH → Option (D × AH) := fun a b h => match a, b with
  | .int i, .int j => some (.int (i - j), h)
  | _, _ => none
theorem sub_ok : OpR X (binaryOp .Sub) (rD X Γ subD) := by
  intro pins s σ H x y v u Q I rx ry ⟨h, n, ρ, a, b, hr, ra, rb, q⟩
  cases a with
  | int i =>
    cases b with
    | int j =>
      cases ra; cases rb
      exact op_sub pins s σ H _ _ v u Q I rx ry ⟨i, j, rfl, rfl, postVal hr (.int _) q⟩
    | _ => exact q.elim
  | _ => cases b <;> exact q.elim
/-- % by a positive number -/
def modD : D → D → AH → Option (D × AH) := fun a b h => match a, b with
  | .int i, .int j => if 0 < j then some (.int (i % j), h) else none
  | _, _ => none
theorem mod_ok : OpR X (binaryOp .Mod) (rD X Γ modD) := by
  intro pins s σ H x y v u Q I rx ry ⟨h, n, ρ, a, b, hr, ra, rb, q⟩
  cases a with
  | int i =>
    cases b with
    | int j =>
      cases ra; cases rb
      simp only [modD] at q
      by_cases hz : 0 < j
      · rw [if_pos hz] at q
        exact op_mod pins s σ H _ _ v u Q I rx ry ⟨i, j, rfl, rfl, hz, postVal hr (.int _) q⟩
      · rw [if_neg hz] at q; exact q.elim
    | _ => exact q.elim
  | _ => cases b <;> exact q.elim
/-- -n -/
def negD : D → Option D := fun a => match a with
  | .int i => some (.int (-i))
  | _ => none
def negR (d : D) (h : AH) : Res D := match d with
  | .int i => okR (.int (-i)) h
  | _ => none
def evNeg (fa : Env' → AH → Res D) : Env' → AH → Res D := fun E h => bindR (fa E h) negR
theorem de_neg {a : Expr} {pos : Pos} {fa : Env' → AH → Res D} (pa : DE X Γ W a fa) : DE X Γ W (.UnaryOp .USub a pos) (evNeg fa) :=
  PE.imp (pe_un un_neg pa) fun σ H Q ⟨E, h0, n, ρ, er, hr, q⟩ => ⟨E, h0, n, ρ, er, hr, (Post.bind (R := RelT X.w X.K Γ) q).imp fun x H1 ⟨a, h1, n1, ρ1, x1, hr1, r1, q1⟩ => by
    cases a with
    | int i => cases r1; exact ⟨i, rfl, q1.okR hr1 (.int _)⟩
    | _ => exact q1.elim⟩

/-! ### items -/
theorem RelDs.atI {m : Nat} {ds : List D} {vs : List V} {i : Int} {d : D} (r : RelDs X.w X.K Γ n ρ H m ds vs) (e : L2.atI ds i = some d) : ∃ v, L2.atI vs i = some v ∧ RelD X.w X.K Γ n ρ H m d v := by
  unfold L2.atI at e ⊢
  rw [r.length] at e
  cases q : ixN vs.length i with
  | none => rw [q] at e; cases e
  | some j =>
    rw [q] at e
    obtain ⟨v, h1, h2⟩ := r.get (i := j) (d := d) e
    exact ⟨v, h1, h2⟩
def ixD : D → D → AH → Option (D × AH) := fun a b h => match b with
  | .int i => match vw h a with
    | .tup xs => (L2.atI xs i).map fun d => (d, h)
    | .lst xs => (L2.atI xs i).map fun d => (d, h)
    | .str z => if z.length ≤ sizeLine then (L2.atI z.cps.toList i).map fun c => (.str ⟨#[c]⟩, h) else none
    | _ => none
  | _ => none
theorem vw_tup {d : D} {xs : List D} {v : V} (hr : HR X Γ n ρ H h) (r : RD X Γ n ρ H d v) (e : vw h d = .tup xs) : RD0 X Γ n ρ H (.tup xs) v := vw_val hr r e (fun _ z => by cases z) (fun _ z => by cases z)
theorem vw_str {d : D} {x : Str} {v : V} (hr : HR X Γ n ρ H h) (r : RD X Γ n ρ H d v) (e : vw h d = .str x) : RD0 X Γ n ρ H (.str x) v := vw_val hr r e (fun _ z => by cases z) (fun _ z => by cases z)
theorem ix_ok : IxR X (rD X Γ ixD) := by
  intro value slice pins s σ H x y v u Q I rx ry ⟨h, n, ρ, a, b, hr, ra, rb, q⟩ hs
  cases b with
  | int i =>
    cases rb
    cases e : vw h a with
    | tup xs =>
      replace ra := vw_tup hr ra e
      simp only [ixD, e] at q
      cases e2 : L2.atI xs i with
      | none => rw [e2] at q; exact q.elim
      | some d =>
        rw [e2] at q
        obtain ⟨l, vs, rfl, h1, r1⟩ := RelD.tup_seq ra
        obtain ⟨w', h2, r2⟩ := r1.atI e2
        exact ix_tup value slice pins s σ H _ _ v u Q I rx ry ⟨l, vs, i, w', rfl, rfl, h1, h2, postVal hr r2.up q⟩ hs
    | lst xs =>
      simp only [ixD, e] at q
      cases e2 : L2.atI xs i with
      | none => rw [e2] at q; exact q.elim
      | some d =>
        rw [e2] at q
        obtain ⟨l, vs, rfl, h1, r1⟩ := vw_seq hr ra e
        obtain ⟨w', h2, r2⟩ := r1.atI e2
        exact ix_list value slice pins s σ H _ _ v u Q I rx ry ⟨l, vs, i, w', rfl, rfl, h1, h2, postVal hr r2.up q⟩ hs
    | str z =>
      replace ra := vw_str hr ra e
      cases ra
      simp only [ixD, e] at q
      by_cases hz : z.length ≤ sizeLine
      · rw [if_pos hz] at q
        cases e2 : L2.atI z.cps.toList i with
        | none => rw [e2] at q; exact q.elim
        | some c =>
          rw [e2] at q
          exact ix_str value slice pins s σ H _ _ v u Q I rx ry ⟨z, i, c, rfl, rfl, hz, e2, postVal hr (.str _) q⟩ hs
      · rw [if_neg hz] at q; exact q.elim
    | _ => simp only [ixD, e] at q; exact q.elim
  | _ => exact q.elim
theorem de_ix {a b : Expr} {pos : Pos} {fa fb : Env' → AH → Res D} {f : D → D → AH → Option (D × AH)} (ho : IxR X (rD X Γ f)) (ha : DE X Γ W a fa) (hb : DE X Γ W b fb) (hs : PlainIx b) :
    DE X Γ W (.Subscript a b pos) (evBin f fa fb) := PE.imp (pe_ix ho ha hb hs) fun _ _ _ q => tD_bind2 q

/-! ### slices -/
def cutD (xs : List D) (lo hi : Option Int) : List D := (xs.drop (HT.sIx xs.length 0 lo)).take (HT.sIx xs.length xs.length hi - HT.sIx xs.length 0 lo)
theorem RelDs.drop {m : Nat} : ∀ {ds : List D} {vs : List V} (k : Nat), RelDs X.w X.K Γ n ρ H m ds vs → RelDs X.w X.K Γ n ρ H m (ds.drop k) (vs.drop k)
  | _, _, 0, r => r
  | _, _, _ + 1, .nil => .nil
  | _, _, k + 1, .cons _ t => RelDs.drop k t
theorem RelDs.take {m : Nat} : ∀ {ds : List D} {vs : List V} (k : Nat), RelDs X.w X.K Γ n ρ H m ds vs → RelDs X.w X.K Γ n ρ H m (ds.take k) (vs.take k)
  | _, _, 0, _ => .nil
  | _, _, _ + 1, .nil => .nil
  | _, _, k + 1, .cons r t => .cons r (RelDs.take k t)
theorem RelDs.cut {ds : List D} {vs : List V} (lo hi : Option Int) (r : RDs0 X Γ n ρ H ds vs) : RDs0 X Γ n ρ H (cutD ds lo hi) (cutV vs lo hi) := by
  unfold cutD cutV
  rw [r.length]
  exact RelDs.take _ (RelDs.drop _ r)
def slD (a : D) (lo hi : Option Int) (h : AH) : Option (D × AH) := match vw h a with
  | .tup xs => some (.tup (cutD xs lo hi), h)
  | .lst xs => some (.lst (cutD xs lo hi), h)
  | _ => none
def rSlD (X : Cx) (Γ : Gm) : V → Option Int → Option Int → Hp → VK → Prop := fun x lo hi H Q => ∃ h n ρ a, HR X Γ n ρ H h ∧ RD X Γ n ρ H a x ∧ PostO X Γ n ρ H (slD a lo hi h) Q
theorem cut_whole {xs : List D} {lo hi : Option Int} (h1 : HT.sIx xs.length 0 lo = 0) (h2 : HT.sIx xs.length xs.length hi = xs.length) : cutD xs lo hi = xs := by
  unfold cutD
  rw [h1, h2]
  simp
theorem sl_ok : SlR X (rSlD X Γ) := by
  intro pins s σ H x v vl vu lo hi sl Q I rx hs pl pu ⟨h, n, ρ, a, hr, ra, q⟩
  cases e : vw h a with
  | tup xs =>
    replace ra := vw_tup hr ra e
    simp only [slD, e] at q
    obtain ⟨l, vs, rfl, h1, r1⟩ := RelD.tup_seq ra
    have hl := r1.length
    by_cases hw : HT.sIx vs.length 0 lo = 0 ∧ HT.sIx vs.length vs.length hi = vs.length
    · refine sl_tupA pins s σ H _ v vl vu lo hi sl Q I rx hs pl pu ⟨l, vs, rfl, h1, fun ⟨e1, e2⟩ => ?_, fun nw => absurd hw nw⟩
      rw [cut_whole (by rw [hl]; exact e1) (by rw [hl]; exact e2)] at q
      exact postVal hr ra.up q
    · cases rx
      obtain ⟨its, r, ht, hz⟩ := I.tuple h1
      have hlen : its.toArray.size = vs.length := by rw [List.size_toArray]; exact r.length.symm
      have key := HT.getItem_tuple_cut (prog := X.prog) (w := X.w) (A := X.A) (E := X.xe) (Q := EP X pins σ Q) ht hs pl pu (by rw [hlen]; exact hw) ?fin (by rw [hlen]; exact hz)
      · exact ⟨"tuple", _, PyProof.Rows.slot_tuple_getitem.lookup, ht.typeIs, key⟩
      · rw [hlen]
        exact ⟨.ref s.heap.objs.size, _, inv_tup (tk := s.toks) I ((r.drop (HT.sIx vs.length 0 lo)).take (HT.sIx vs.length vs.length hi - HT.sIx vs.length 0 lo)) (Nat.le_trans (cutV_length vs lo hi) hz), rfl, post_tup hr (r1.cut lo hi) (I.hok.fresh (Nat.le_refl _)) q⟩
  | lst xs =>
    simp only [slD, e] at q
    obtain ⟨l, vs, rfl, h1, r1⟩ := vw_seq hr ra e
    exact sl_list pins s σ H _ v vl vu lo hi sl Q I rx hs pl pu ⟨l, vs, rfl, h1, fun p hp => postLst hr (r1.cut lo hi) hp q⟩
  | _ => simp only [slD, e] at q; exact q.elim
/-- a part of a slice -/
def partR (d : D) (h : AH) : Res (Option Int) := match d with
  | .int i => okR (some i) h
  | _ => none
def tDO (X : Cx) (Γ : Gm) (W : WX) (f : Env' → AH → Res (Option Int)) : L2.St → Hp → (Option Int → Hp → Prop) → Prop := fun σ H Q => ∃ E h n ρ, EnvR X Γ n ρ H E σ ∧ HR X Γ n ρ H h ∧ Post X Γ (fun _ _ _ (a b : Option Int) => a = b) n ρ H (fun c d H' => W c d σ H') (f E h) Q
theorem PO.imp {e : Option Expr} {t t' : L2.St → Hp → (Option Int → Hp → Prop) → Prop} (p : PO X e t) (h : ∀ σ H Q, t' σ H Q → t σ H Q) : PO X e t' := ⟨fun pins s σ H Q I q => p.run pins s σ H Q I (h σ H Q q)⟩
def ovNone : Env' → AH → Res (Option Int) := fun _ h => okR none h
def ovSome (f : Env' → AH → Res D) : Env' → AH → Res (Option Int) := fun E h => bindR (f E h) partR
theorem do_none : PO X none (tDO X Γ W ovNone) := PO.imp po_none fun σ H Q ⟨E, h0, n, ρ, er, hr, q⟩ => q.okR hr rfl
theorem do_some {e : Expr} {f : Env' → AH → Res D} (p : DE X Γ W e f) : PO X (some e) (tDO X Γ W (ovSome f)) :=
  PO.imp (po_some p) fun σ H Q ⟨E, h0, n, ρ, er, hr, q⟩ => ⟨E, h0, n, ρ, er, hr, (Post.bind (R := RelT X.w X.K Γ) q).imp fun x H1 ⟨a, h1, n1, ρ1, x1, hr1, r1, q1⟩ => by
    cases a with
    | int i => cases r1; exact ⟨i, rfl, q1.okR hr1 rfl⟩
    | _ => exact q1.elim⟩
def evSlice (fa : Env' → AH → Res D) (fl fh : Env' → AH → Res (Option Int)) : Env' → AH → Res D := fun E h => bindR (fa E h) fun a h1 => bindR (fl E h1) fun l h2 => bindR (fh E h2) fun u h3 => opR (slD a l u h3)
theorem de_slice {a : Expr} {lo hi : Option Expr} {p2 pos : Pos} {fa : Env' → AH → Res D} {fl fh : Env' → AH → Res (Option Int)} (pa : DE X Γ W a fa) (pl : PO X lo (tDO X Γ W fl)) (ph : PO X hi (tDO X Γ W fh)) :
    DE X Γ W (.Subscript a (.Slice lo hi none p2) pos) (evSlice fa fl fh) :=
  PE.imp (pe_slice sl_ok pa pl ph) fun σ H Q ⟨E, h0, n, ρ, er, hr, q⟩ => ⟨E, h0, n, ρ, er, hr, (Post.bind (R := RelT X.w X.K Γ) q).imp fun x H1 ⟨a, h1, n1, ρ1, x1, hr1, r1, q1⟩ =>
    ⟨E, h1, n1, ρ1, er.mono x1, hr1, (Post.bind (R := fun _ _ _ (a b : Option Int) => a = b) q1).imp fun l H2 ⟨l', h2, n2, ρ2, x2, hr2, r2, q2⟩ =>
      ⟨E, h2, n2, ρ2, (er.mono x1).mono x2, hr2, (Post.bind (R := fun _ _ _ (a b : Option Int) => a = b) q2).imp fun u H3 ⟨u', h3, n3, ρ3, x3, hr3, r3, q3⟩ => by
        subst r2
        subst r3
        refine ⟨h3, n3, ρ3, a, hr3, (r1.mono x2).mono x3, ?_⟩
        cases e : slD a l' u' h3 with
        | none => rw [e] at q3; exact q3.elim
        | some p => obtain ⟨d, h4⟩ := p; rw [e] at q3; exact q3⟩⟩⟩

/-! ### x in a tuple, a list -/
def anyEq (xs : List PyData) (p : PyData) : Bool := xs.any fun y => PyData.eqv y p
def inSeq (h : AH) (a b : D) : Option Bool := match toD dp (vw h a), toD dp (vw h b) with
  | some x, some (.tuple ys) => some (anyEq ys x)
  | some x, some (.list ys) => some (anyEq ys x)
  | _, _ => none
theorem inSeq_ok {neg : Bool} {a b : D} {x y : V} {v u : Value} {Q : VK} {r : Bool} (hu : X.A.units + 64 < cLine) (I : Inv X pins σ H s) (rx : RelV x v) (ry : RelV y u) (hr : HR X Γ n ρ H h) (ra : RD X Γ n ρ H a x) (rb : RD X Γ n ρ H b y)
    (e : inSeq h a b = some r) : (Q (.bl r) H → wpAny (model X.prog X.w) X.A (compareOp .In v u) (EP X pins σ Q) X.xe s) ∧ (Q (.bl (!r)) H → wpAny (model X.prog X.w) X.A (compareOp .NotIn v u) (EP X pins σ Q) X.xe s) := by
  unfold inSeq at e
  cases e1 : toD dp (vw h a) with
  | none => rw [e1] at e; cases e
  | some p =>
    rw [e1] at e
    cases e2 : toD dp (vw h b) with
    | none => rw [e2] at e; cases e
    | some p' =>
      rw [e2] at e
      obtain ⟨as, r1⟩ := reads_vw I hr e1 ra rx
      obtain ⟨bs, r2⟩ := reads_vw I hr e2 rb ry
      have d1 : p.depth ≤ 16 := toD_depth e1
      have pl1 := toD_plain e1
      have pl2 := toD_plain e2
      cases p' with
      | tuple ys =>
        cases e
        have : min (PyData.depthAll ys) p.depth ≤ p.depth := Nat.min_le_right _ _
        exact ⟨fun q => SeqAt.in_tuple_data r2 r1 pl2 pl1 (by omega) ⟨.bl _, H, I, rfl, q⟩, fun q => SeqAt.notIn_tuple_data r2 r1 pl2 pl1 (by omega) ⟨.bl _, H, I, rfl, q⟩⟩
      | list ys =>
        cases e
        have : min (PyData.depthAll ys) p.depth ≤ p.depth := Nat.min_le_right _ _
        exact ⟨fun q => SeqAt.in_list_data r2 r1 pl2 pl1 (by omega) ⟨.bl _, H, I, rfl, q⟩, fun q => SeqAt.notIn_list_data r2 r1 pl2 pl1 (by omega) ⟨.bl _, H, I, rfl, q⟩⟩
      | _ => cases e
end
end MP
set_option Elab.async false
set_option linter.all false
set_option maxRecDepth 100000
set_option maxHeartbeats 4000000
/-! MPE: statements by evaluations. -/
namespace MP
open PySem PySem.Spec PyProof.Rows L2

inductive Fl where
  | next (E : Env') | ret (d : D) | brk (E : Env') | cont (E : Env') | exc (E : Env') (c : Str) (fs : List (Str × D))
abbrev SRes := Option (Fl × AH)
/-- an expression's result, then a statement's end -/
def bindE {α : Type} (r : Res α) (E : Env') (k : α → AH → SRes) : SRes := match r with
  | none => none
  | some (.ok a, h) => k a h
  | some (.exc c fs, h) => some (.exc E c fs, h)
def bindS (r : SRes) (k : Env' → AH → SRes) : SRes := match r with
  | some (.next E, h) => k E h
  | r => r
abbrev Ev := Env' → AH → Res D
abbrev Sv := Env' → AH → SRes
def svNil : Sv := fun E h => some (.next E, h)
def svSeq (f g : Sv) : Sv := fun E h => bindS (f E h) g
def svBreak : Sv := fun E h => some (.brk E, h)
def svCont : Sv := fun E h => some (.cont E, h)
def svExpr (f : Ev) : Sv := fun E h => bindE (f E h) E fun _ h1 => some (.next E, h1)
def svRet (f : Ev) : Sv := fun E h => bindE (f E h) E fun d h1 => some (.ret d, h1)
def svRetN : Sv := fun _ h => some (.ret .non, h)
def svSet (i : Nat) (f : Ev) : Sv := fun E h => bindE (f E h) E fun d h1 => some (.next (E.set i (some d)), h1)
section
variable (X : Cx) (Γ : Gm)
def PostS (n : Nat) (ρ : Rho) (H : Hp) (W : WX) (r : SRes) (Z : Ends) : Prop := match r with
  | none => False
  | some (.next E', h') => ∀ σ' n' ρ' H', Ext n ρ H n' ρ' H' → HR X Γ n' ρ' H' h' → EnvR X Γ n' ρ' H' E' σ' → Z.nx σ' H'
  | some (.ret d, h') => ∀ v n' ρ' H', Ext n ρ H n' ρ' H' → HR X Γ n' ρ' H' h' → RD X Γ n' ρ' H' d v → Z.rt v H'
  | some (.brk E', h') => ∀ σ' n' ρ' H', Ext n ρ H n' ρ' H' → HR X Γ n' ρ' H' h' → EnvR X Γ n' ρ' H' E' σ' → Z.bk σ' H'
  | some (.cont E', h') => ∀ σ' n' ρ' H', Ext n ρ H n' ρ' H' → HR X Γ n' ρ' H' h' → EnvR X Γ n' ρ' H' E' σ' → Z.ct σ' H'
  | some (.exc E' c fs, h') => ∀ σ' cls dd n' ρ' H', Ext n ρ H n' ρ' H' → HR X Γ n' ρ' H' h' → EnvR X Γ n' ρ' H' E' σ' → XR X Γ n' ρ' H' c fs cls dd → W cls dd σ' H'
def tS (W : WX) (f : Env' → AH → SRes) : TS := fun Z σ H => ∃ E h n ρ, EnvR X Γ n ρ H E σ ∧ HR X Γ n ρ H h ∧ PostS X Γ n ρ H W (f E h) Z
abbrev DS (W : WX) (st : Stmt) (f : Env' → AH → SRes) : Prop := PS X st (tS X Γ W f)
abbrev DSs (W : WX) (st : List Stmt) (f : Env' → AH → SRes) : Prop := PSs X st (tS X Γ W f)
end
theorem PS.imp {X : Cx} {e : Stmt} {t t' : TS} (p : PS X e t) (h : ∀ Z σ H, t' Z σ H → t Z σ H) : PS X e t' := ⟨fun pins s σ H Z I q => p.run pins s σ H Z I (h Z σ H q)⟩
theorem PSs.imp {X : Cx} {e : List Stmt} {t t' : TS} (p : PSs X e t) (h : ∀ Z σ H, t' Z σ H → t Z σ H) : PSs X e t' := ⟨fun pins s σ H Z I q => p.run pins s σ H Z I (h Z σ H q)⟩
section
variable {X : Cx} {Γ : Gm} {W : WX} {n n' : Nat} {ρ ρ' : Rho} {H H' : Hp} {E : Env'} {σ : L2.St} {h : AH} {Z : Ends}
theorem PostS.mono {r : SRes} (x : Ext n ρ H n' ρ' H') (p : PostS X Γ n ρ H W r Z) : PostS X Γ n' ρ' H' W r Z := by
  match r, p with
  | some (.next E', h'), p => exact fun a b c d y => p a b c d (x.trans y)
  | some (.ret E', h'), p => exact fun a b c d y => p a b c d (x.trans y)
  | some (.brk E', h'), p => exact fun a b c d y => p a b c d (x.trans y)
  | some (.cont E', h'), p => exact fun a b c d y => p a b c d (x.trans y)
  | some (.exc E' c fs, h'), p => exact fun a b e b2 c d y => p a b e b2 c d (x.trans y)
/-- an expression within a statement -/
theorem PostS.expr {α β : Type} {R : Nat → Rho → Hp → α → β → Prop} {r : Res α} {k : α → AH → SRes} (er : EnvR X Γ n ρ H E σ) (p : PostS X Γ n ρ H W (bindE r E k) Z) :
    Post X Γ R n ρ H (fun c d H' => W c d σ H') r (fun v H1 => ∃ d h1 n1 ρ1, Ext n ρ H n1 ρ1 H1 ∧ HR X Γ n1 ρ1 H1 h1 ∧ R n1 ρ1 H1 d v ∧ PostS X Γ n1 ρ1 H1 W (k d h1) Z) := by
  match r, p with
  | some (.ok d, h'), p => exact fun v n1 ρ1 H1 y hr rd => ⟨d, h', n1, ρ1, y, hr, rd, PostS.mono y p⟩
  | some (.exc c fs, h'), p => exact fun cls dd n1 ρ1 H1 y hr xr => p σ cls dd n1 ρ1 H1 y hr (er.mono y) xr
theorem PostS.nx {f : Env' → AH → SRes} (hr : HR X Γ n ρ H h) (er : EnvR X Γ n ρ H E σ) (p : PostS X Γ n ρ H W (some (.next E, h)) Z) : Z.nx σ H := p σ n ρ H Ext.refl hr er
/-- one behind the other -/
theorem PostS.seq {r : SRes} {k : Env' → AH → SRes} {u : TS} (p : PostS X Γ n ρ H W (bindS r k) Z) (hu : ∀ σ' H', tS X Γ W k Z σ' H' → u Z σ' H') : PostS X Γ n ρ H W r { Z with nx := u Z } := by
  match r, p with
  | some (.next E', h'), p => exact fun σ' n1 ρ1 H1 y hr er => hu _ _ ⟨E', h', n1, ρ1, er, hr, PostS.mono y p⟩
  | some (.ret E', h'), p => exact p
  | some (.brk E', h'), p => exact p
  | some (.cont E', h'), p => exact p
  | some (.exc E' c fs, h'), p => exact p
theorem dss_nil : DSs X Γ W [] svNil := PSs.imp pss_nil fun Z σ H ⟨E, h, n, ρ, er, hr, q⟩ => q σ n ρ H Ext.refl hr er
theorem dss_cons {st : Stmt} {r : List Stmt} {f g : Env' → AH → SRes} (p : DS X Γ W st f) (q : DSs X Γ W r g) : DSs X Γ W (st :: r) (svSeq f g) :=
  PSs.imp (pss_cons p q) fun Z σ H ⟨E, h, n, ρ, er, hr, q⟩ => ⟨E, h, n, ρ, er, hr, q.seq fun _ _ z => z⟩
theorem ds_pass {pos : Pos} : DS X Γ W (.Pass pos) svNil := PS.imp ps_pass fun Z σ H ⟨E, h, n, ρ, er, hr, q⟩ => q σ n ρ H Ext.refl hr er
theorem ds_break {pos : Pos} : DS X Γ W (.Break pos) svBreak := PS.imp ps_break fun Z σ H ⟨E, h, n, ρ, er, hr, q⟩ => q σ n ρ H Ext.refl hr er
theorem ds_continue {pos : Pos} : DS X Γ W (.Continue pos) svCont := PS.imp ps_continue fun Z σ H ⟨E, h, n, ρ, er, hr, q⟩ => q σ n ρ H Ext.refl hr er
theorem ds_doc {x : Str} {j : Nat} {pos pos' : Pos} : DS X Γ W (.Expr (.Constant (.str x) j pos) pos') svNil := PS.imp ps_doc fun Z σ H ⟨E, h, n, ρ, er, hr, q⟩ => q σ n ρ H Ext.refl hr er
theorem ds_expr {e : Expr} {pos : Pos} {f : Env' → AH → Res D} (p : DE X Γ W e f) (hs : swapsWith e none pos.line X.env = pure false) : DS X Γ W (.Expr e pos) (svExpr f) :=
  PS.imp (ps_expr p hs) fun Z σ H ⟨E, h, n, ρ, er, hr, q⟩ => ⟨E, h, n, ρ, er, hr, (PostS.expr (R := RelT X.w X.K Γ) er q).imp fun v H1 ⟨d, h1, n1, ρ1, y, hr1, rd, q1⟩ => q1 σ n1 ρ1 H1 Ext.refl hr1 (er.mono y)⟩
theorem ds_ret {e : Expr} {pos : Pos} {f : Env' → AH → Res D} (p : DE X Γ W e f) : DS X Γ W (.Return (some e) pos) (svRet f) :=
  PS.imp (ps_ret p) fun Z σ H ⟨E, h, n, ρ, er, hr, q⟩ => ⟨E, h, n, ρ, er, hr, (PostS.expr (R := RelT X.w X.K Γ) er q).imp fun v H1 ⟨d, h1, n1, ρ1, y, hr1, rd, q1⟩ => q1 v n1 ρ1 H1 Ext.refl hr1 rd⟩
theorem ds_retN {pos : Pos} : DS X Γ W (.Return none pos) svRetN := PS.imp ps_retN fun Z σ H ⟨E, h, n, ρ, er, hr, q⟩ => q .non n ρ H Ext.refl hr .non
def ifS (t : Res Bool) (E : Env') (a b : Env' → AH → SRes) : SRes := bindE t E fun x h => match x with
  | true => a E h
  | false => b E h
def svIf (fc : Env' → AH → Res Bool) (fa fb : Sv) : Sv := fun E h => ifS (fc E h) E fa fb
theorem ds_if {c : Expr} {a b : List Stmt} {pos : Pos} {fc : Env' → AH → Res Bool} {fa fb : Env' → AH → SRes} (pc : DT X Γ W c fc) (pa : DSs X Γ W a fa) (pb : DSs X Γ W b fb) : DS X Γ W (.If c a b pos) (svIf fc fa fb) :=
  PS.imp (ps_if pc pa pb) fun Z σ H ⟨E, h, n, ρ, er, hr, q⟩ => ⟨E, h, n, ρ, er, hr, (PostS.expr (R := fun _ _ _ (a b : Bool) => a = b) er q).imp fun v H1 ⟨d, h1, n1, ρ1, y, hr1, rd, q1⟩ => by
    subst rd
    cases d with
    | true => exact iteT ⟨E, h1, n1, ρ1, er.mono y, hr1, q1⟩
    | false => exact iteF ⟨E, h1, n1, ρ1, er.mono y, hr1, q1⟩⟩
theorem EnvR.set {i : Nat} {d : D} {v : V} (er : EnvR X Γ n ρ H E σ) (r : RD X Γ n ρ H d v) : EnvR X Γ n ρ H (E.set i (some d)) (σ.set i (some v)) := by
  refine ⟨by rw [List.length_set, List.length_set]; exact er.len, fun j d' e => ?_⟩
  by_cases hj : i = j
  · subst hj
    by_cases hl : i < E.length
    · rw [List.getElem?_set_self hl] at e
      have e2 : d = d' := Option.some.inj (Option.some.inj e)
      subst e2
      exact ⟨v, List.getElem?_set_self (by rw [← er.len]; exact hl), r⟩
    · rw [List.getElem?_eq_none (by rw [List.length_set]; omega)] at e
      cases e
  · rw [List.getElem?_set_ne hj] at e ⊢
    exact er.at_ j d' e
/-- the target of a store: names, tuples of targets -/
inductive Tg where
  | name (i : Nat)
  | tup (ts : List Tg)
mutual
def asg : Tg → D → Env' → Option Env'
  | .name i, d, E => some (E.set i (some d))
  | .tup ts, d, E => match d with
    | .tup ds => asgs ts ds E
    | _ => none
def asgs : List Tg → List D → Env' → Option Env'
  | [], [], E => some E
  | t :: ts, d :: ds, E => match asg t d E with
    | some E1 => asgs ts ds E1
    | none => none
  | _, _, _ => none
end
mutual
def slots : Tg → List Nat
  | .name i => [i]
  | .tup ts => slotsL ts
def slotsL : List Tg → List Nat
  | [] => []
  | t :: ts => slots t ++ slotsL ts
end
/-- the slots but those of S are as they were -/
def SameS (S : List Nat) (σ σ' : L2.St) : Prop := σ'.length = σ.length ∧ ∀ j, j ∉ S → σ'[j]? = σ[j]?
theorem SameS.refl {S : List Nat} {σ : L2.St} : SameS S σ σ := ⟨rfl, fun _ _ => rfl⟩
theorem SameS.trans {S T : List Nat} {σ σ1 σ2 : L2.St} (a : SameS S σ σ1) (b : SameS T σ1 σ2) : SameS (S ++ T) σ σ2 :=
  ⟨b.1.trans a.1, fun j hj => (b.2 j fun z => hj (List.mem_append_right _ z)).trans (a.2 j fun z => hj (List.mem_append_left _ z))⟩
theorem SameS.set {σ : L2.St} {i : Nat} {v : Option V} : SameS [i] σ (σ.set i v) :=
  ⟨List.length_set .., fun j hj => List.getElem?_set_ne (fun e => hj (by rw [e]; exact List.mem_singleton_self _))⟩
def tgD (X : Cx) (Γ : Gm) (f : D → Env' → Option Env') (S : List Nat) : TG := fun v σ H Q => ∃ E h n ρ d, EnvR X Γ n ρ H E σ ∧ HR X Γ n ρ H h ∧ RD X Γ n ρ H d v ∧ ∃ E', f d E = some E' ∧ ∀ σ', EnvR X Γ n ρ H E' σ' → SameS S σ σ' → Q σ' H
def tgsD (X : Cx) (Γ : Gm) (f : List D → Env' → Option Env') (S : List Nat) : TGs := fun vs σ H Q => ∃ E h n ρ ds, EnvR X Γ n ρ H E σ ∧ HR X Γ n ρ H h ∧ RDs X Γ n ρ H ds vs ∧ ∃ E', f ds E = some E' ∧ ∀ σ', EnvR X Γ n ρ H E' σ' → SameS S σ σ' → Q σ' H
theorem PG.imp {e : Expr} {t t' : TG} (p : PG X e t) (h : ∀ v σ H Q, t' v σ H Q → t v σ H Q) : PG X e t' := ⟨fun pins s σ H v u Q I r q => p.run pins s σ H v u Q I r (h v σ H Q q)⟩
theorem PGs.imp {e : List Expr} {t t' : TGs} (p : PGs X e t) (h : ∀ v σ H Q, t' v σ H Q → t v σ H Q) : PGs X e t' := ⟨fun pins s σ H v u Q I r q => p.run pins s σ H v u Q I r (h v σ H Q q)⟩
abbrev DG (X : Cx) (Γ : Gm) (e : Expr) (t : Tg) : Prop := PG X e (tgD X Γ (asg t) (slots t))
abbrev DGs (X : Cx) (Γ : Gm) (e : List Expr) (t : List Tg) : Prop := PGs X e (tgsD X Γ (asgs t) (slotsL t))
theorem dg_name {e : Expr} {i : Nat} (p : PG X e (gName i)) : DG X Γ e (.name i) := PG.imp p fun v σ H Q ⟨E, h, n, ρ, d, er, hr, rd, E', e1, q⟩ => by
  rw [asg] at e1
  cases e1
  exact q _ (er.set rd) (by rw [slots]; exact SameS.set)
theorem dgs_nil : DGs X Γ [] [] := PGs.imp pgs_nil fun vs σ H Q ⟨E, h, n, ρ, ds, er, hr, rd, E', e1, q⟩ => by
  cases rd with
  | nil => rw [asgs] at e1; cases e1; exact ⟨rfl, q _ er SameS.refl⟩
  | cons a b => rw [asgs] at e1 <;> first | cases e1 | (intro z; cases z) | (intros; contradiction)
theorem dgs_cons {e : Expr} {es : List Expr} {t : Tg} {ts : List Tg} (p : DG X Γ e t) (q : DGs X Γ es ts) (hs : (assignEach (e :: es) X.env).map (·.2) = assign e X.env :: (assignEach es X.env).map (·.2)) : DGs X Γ (e :: es) (t :: ts) :=
  PGs.imp (pgs_cons p q hs) fun vs σ H Q ⟨E, h, n, ρ, ds, er, hr, rd, E', e1, q⟩ => by
    cases rd with
    | nil => rw [asgs] at e1 <;> first | cases e1 | (intros; contradiction)
    | @cons _ d v ds vs r1 r2 =>
      rw [asgs] at e1
      cases e2 : asg t d E with
      | none => rw [e2] at e1; cases e1
      | some E1 =>
        rw [e2] at e1
        exact ⟨v, vs, rfl, E, h, n, ρ, d, er, hr, r1, E1, e2, fun σ1 er1 s1 => ⟨E1, h, n, ρ, ds, er1, hr, r2, E', e1, fun σ2 er2 s2 => q σ2 er2 (by rw [slotsL]; exact s1.trans s2)⟩⟩
theorem asgs_len : ∀ {ts : List Tg} {ds : List D} {E E' : Env'}, asgs ts ds E = some E' → ds.length = ts.length
  | [], [], _, _, _ => rfl
  | [], _ :: _, _, _, e => by simp [asgs] at e
  | _ :: _, [], _, _, e => by simp [asgs] at e
  | t :: ts, d :: ds, E, E', e => by
    rw [asgs] at e
    cases e2 : asg t d E with
    | none => rw [e2] at e; cases e
    | some E1 => rw [e2] at e; exact congrArg Nat.succ (asgs_len e)
theorem dg_tup {es : List Expr} {k : Nat} {pos : Pos} {ts : List Tg} (hc : X.calm = true) (p : DGs X Γ es ts) (hn : (assignEach es X.env).length = ts.length) (hst : (assignEach es X.env).findIdx? (·.1) = none) : DG X Γ (.Tuple es k pos) (.tup ts) :=
  PG.imp (pg_tup hc p hn hst) fun v σ H Q ⟨E, h, n, ρ, d, er, hr, rd, E', e1, q⟩ => by
    cases d with
    | tup ds =>
      rw [asg] at e1
      obtain ⟨a, vs, rfl, hs, rs⟩ := RelD.tup_seq rd
      exact ⟨a, vs, rfl, hs, by rw [← rs.length]; exact asgs_len e1, E, h, n, ρ, ds, er, hr, rs.up, E', e1, fun σ2 er2 s2 => q σ2 er2 (by rw [slots]; exact s2)⟩
    | _ => simp [asg] at e1
def asgR (t : Tg) (d : D) (E : Env') (h : AH) : SRes := match asg t d E with
  | some E1 => some (.next E1, h)
  | none => none
def svAsg (t : Tg) (f : Ev) : Sv := fun E h => bindE (f E h) E fun d h1 => asgR t d E h1
theorem ds_asg {tg e : Expr} {pos : Pos} {f : Env' → AH → Res D} {t : Tg} (p : DE X Γ W e f) (g : DG X Γ tg t) (hs : swapsWithSole [tg] e pos.line X.env = pure false) (hw : swappedStores [tg] e X.env = pure none)
    (h1 : (assignEach [tg] X.env).map (·.2) = [assign tg X.env]) : DS X Γ W (.Assign [tg] e pos) (svAsg t f) :=
  PS.imp (ps_asg p g hs hw h1) fun Z σ H ⟨E, h, n, ρ, er, hr, q⟩ => ⟨E, h, n, ρ, er, hr, (PostS.expr (R := RelT X.w X.K Γ) er q).imp fun v H1 ⟨d, h1, n1, ρ1, y, hr1, rd, q1⟩ => by
    unfold asgR at q1
    cases e2 : asg t d E with
    | none => rw [e2] at q1; exact q1.elim
    | some E1 => rw [e2] at q1; exact ⟨E, h1, n1, ρ1, d, er.mono y, hr1, rd, E1, e2, fun σ' er' _ => q1 σ' n1 ρ1 H1 Ext.refl hr1 er'⟩⟩
/-- x = e -/
theorem ds_set {x : Str} {i : Nat} {e : Expr} {pos pos' : Pos} {f : Env' → AH → Res D} (hN : X.N.Nodup) (hi : X.N[i]? = some x) (hx : Loc X.env.scope x) (p : DE X Γ W e f) (hs : swapsWith e (some (.Name x pos')) pos.line X.env = pure false) (hf : X.fn x = true ∨ X.env.scope.names.lookup x = some .local) :
    DS X Γ W (.Assign [.Name x pos'] e pos) (svSet i f) :=
  PS.imp (ps_set hN hi hx p hs hf) fun Z σ H ⟨E, h, n, ρ, er, hr, q⟩ => ⟨E, h, n, ρ, er, hr, (PostS.expr (R := RelT X.w X.K Γ) er q).imp fun v H1 ⟨d, h1, n1, ρ1, y, hr1, rd, q1⟩ => q1 _ n1 ρ1 H1 Ext.refl hr1 ((er.mono y).set rd)⟩
/-- a, b = x, y: plain locals -/
def parR (i j : Nat) (ds : List D) (E : Env') (h : AH) : SRes := match ds with
  | [a, b] => some (.next ((E.set i (some a)).set j (some b)), h)
  | _ => none
def svPar (i j : Nat) (g : Env' → AH → Res (List D)) : Sv := fun E h => bindE (g E h) E fun ds h1 => parR i j ds E h1
theorem ds_par {i j : Nat} {x y : Str} {a b : Expr} {px py pt : Pos} {kt k2 : Nat} {pt2 pos : Pos} {g : Env' → AH → Res (List D)} (hc : X.calm = true) (hN : X.N.Nodup) (hi : X.N[i]? = some x) (hj : X.N[j]? = some y) (hij : i ≠ j)
    (hx : X.env.scope.names.lookup x = some .local) (hy : X.env.scope.names.lookup y = some .local) (ha : DA X Γ W [a, b] g)
    (hw : swappedStores [.Tuple [.Name x px, .Name y py] kt pt] (.Tuple [a, b] k2 pt2) X.env = pure (some [x, y]))
    (hs : swapsWithSole [.Tuple [.Name x px, .Name y py] kt pt] (.Tuple [a, b] k2 pt2) pos.line X.env = pure false) :
    DS X Γ W (.Assign [.Tuple [.Name x px, .Name y py] kt pt] (.Tuple [a, b] k2 pt2) pos) (svPar i j g) :=
  PS.imp (ps_par hc hN hi hj hij hx hy ha hw hs) fun Z σ H ⟨E, h, n, ρ, er, hr, q⟩ => ⟨E, h, n, ρ, er, hr, (PostS.expr (R := RelTs X.w X.K Γ) er q).imp fun vs H1 ⟨ds, h1, n1, ρ1, y, hr1, rd, q1⟩ => by
    match ds, rd, q1 with
    | [], _, q1 => exact q1.elim
    | [_], _, q1 => exact q1.elim
    | [d1, d2], .cons r1 (.cons r2 .nil), q1 => exact ⟨_, _, rfl, q1 _ n1 ρ1 H1 Ext.refl hr1 (((er.mono y).set r1).set r2)⟩
    | _ :: _ :: _ :: _, _, q1 => exact q1.elim⟩
end
end MP
set_option Elab.async false
set_option linter.all false
set_option maxRecDepth 100000
set_option maxHeartbeats 4000000
/-! MPF: what is walked; while, for, list comprehensions. -/
namespace MP
open PySem PySem.Spec PyProof.Rows L2
mutual
def beqD : D → D → Bool
  | .non, .non => true
  | .bl a, .bl b => a == b
  | .int a, .int b => decide (a = b)
  | .str a, .str b => decide (a = b)
  | .tup a, .tup b => beqDs a b
  | .lst a, .lst b => beqDs a b
  | .dct a, .dct b => beqKs a b
  | .obj c f, .obj c' f' => decide (c = c') && beqFs f f'
  | .ref a, .ref b => decide (a = b)
  | _, _ => false
def beqDs : List D → List D → Bool
  | [], [] => true
  | a :: as, b :: bs => beqD a b && beqDs as bs
  | _, _ => false
def beqKs : List (D × D) → List (D × D) → Bool
  | [], [] => true
  | (a, x) :: as, (b, y) :: bs => beqD a b && beqD x y && beqKs as bs
  | _, _ => false
def beqFs : List (Str × D) → List (Str × D) → Bool
  | [], [] => true
  | (a, x) :: as, (b, y) :: bs => decide (a = b) && beqD x y && beqFs as bs
  | _, _ => false
end
mutual
theorem beqD_eq : ∀ {a b : D}, beqD a b = true → a = b
  | .non, b, e => by cases b <;> simp_all [beqD]
  | .bl a, b, e => by cases b <;> simp_all [beqD]
  | .int a, b, e => by cases b <;> simp_all [beqD]
  | .str a, b, e => by cases b <;> simp_all [beqD]
  | .ref a, b, e => by cases b <;> simp_all [beqD]
  | .scr a, b, e => by cases b <;> simp_all [beqD]
  | .tup a, b, e => by
    cases b with
    | tup b => rw [beqD] at e; rw [beqDs_eq e]
    | _ => simp [beqD] at e
  | .lst a, b, e => by
    cases b with
    | lst b => rw [beqD] at e; rw [beqDs_eq e]
    | _ => simp [beqD] at e
  | .dct a, b, e => by
    cases b with
    | dct b => rw [beqD] at e; rw [beqKs_eq e]
    | _ => simp [beqD] at e
  | .obj c f, b, e => by
    cases b with
    | obj c' f' =>
      rw [beqD, Bool.and_eq_true] at e
      rw [of_decide_eq_true e.1, beqFs_eq e.2]
    | _ => simp [beqD] at e
theorem beqDs_eq : ∀ {a b : List D}, beqDs a b = true → a = b
  | [], b, e => by cases b <;> simp_all [beqDs]
  | a :: as, b, e => by
    cases b with
    | nil => simp [beqDs] at e
    | cons b bs =>
      rw [beqDs, Bool.and_eq_true] at e
      rw [beqD_eq e.1, beqDs_eq e.2]
theorem beqKs_eq : ∀ {a b : List (D × D)}, beqKs a b = true → a = b
  | [], b, e => by cases b <;> simp_all [beqKs]
  | (a, x) :: as, b, e => by
    cases b with
    | nil => simp [beqKs] at e
    | cons b bs =>
      obtain ⟨b, y⟩ := b
      rw [beqKs, Bool.and_eq_true, Bool.and_eq_true] at e
      rw [beqD_eq e.1.1, beqD_eq e.1.2, beqKs_eq e.2]
theorem beqFs_eq : ∀ {a b : List (Str × D)}, beqFs a b = true → a = b
  | [], b, e => by cases b <;> simp_all [beqFs]
  | (a, x) :: as, b, e => by
    cases b with
    | nil => simp [beqFs] at e
    | cons b bs =>
      obtain ⟨b, y⟩ := b
      rw [beqFs, Bool.and_eq_true, Bool.and_eq_true] at e
      rw [of_decide_eq_true e.1.1, beqD_eq e.1.2, beqFs_eq e.2]
end
section
variable (X : Cx) (Γ : Gm)
/-- the iterator J gives ds, one after the other -/
def ItR (n₀ : Nat) (ρ₀ : Rho) (H₀ : Hp) (p : List D) (J : It) : Prop :=
  ∀ i n ρ H h, Ext0 n₀ ρ₀ H₀ n ρ H → HR X Γ n ρ H h →
    (∀ d, p[i]? = some d → J.go i H ∧ ∀ x H', J.yld i H x H' → ∃ n' ρ', Ext n ρ H n' ρ' H' ∧ HR X Γ n' ρ' H' h ∧ RD X Γ n' ρ' H' d x) ∧ (i = p.length → J.stop i H)
def tDI (W : WX) (f : Env' → AH → Res (List D)) : TI := fun σ H R => ∃ E h n ρ, EnvR X Γ n ρ H E σ ∧ HR X Γ n ρ H h ∧ Post X Γ (ItR X Γ) n ρ H (fun c d H' => W c d σ H') (f E h) R
abbrev DI (W : WX) (tg iter : Expr) (f : Env' → AH → Res (List D)) : Prop := PI X tg iter (tDI X Γ W f)
end
theorem PI.imp {X : Cx} {tg e : Expr} {t t' : TI} (p : PI X tg e t) (h : ∀ σ H R, t' σ H R → t σ H R) : PI X tg e t' := ⟨fun pins s σ H R I q => p.run pins s σ H R I (h σ H R q)⟩
section
variable {X : Cx} {Γ : Gm} {W : WX} {n n' : Nat} {ρ ρ' : Rho} {H H' : Hp} {E : Env'} {σ : L2.St} {h : AH} {Z : Ends} {tg : Expr}
/-- a tuple, a list: its items; a changeable list is changed no more -/
def itR (d : D) (h : AH) : Res (List D) := match d with
  | .tup xs => okR xs h
  | .lst xs => okR xs h
  | .ref i => match h[i]? with
    | some (.lst xs) => okR xs (h.set i (.fz (.lst xs)))
    | some (.fz (.lst xs)) => okR xs h
    | some (.fz (.tup xs)) => okR xs h
    | _ => none
  | _ => none
/-- a changeable list is given away -/
theorem frz_lst {i : Nat} {xs : List D} (hr : HR X Γ n ρ H h) (hi : i < n) (q : h[i]? = some (.lst xs)) : Ext n ρ H n (fzAt ρ i) H ∧ HR X Γ n (fzAt ρ i) H (h.set i (.fz (.lst xs))) ∧ RD0 X Γ n (fzAt ρ i) H (.lst xs) (.ref (ρ.to i)) := by
  have z := hr.at_ i _ q
  obtain ⟨_, vs, h1, h2⟩ := z
  have r : RD0 X Γ n (fzAt ρ i) H (.lst xs) (.ref (ρ.to i)) := .lst h1 (hr.frozen hi) (h2.monoP Ext.freeze)
  exact ⟨Ext.freeze, hr.freeze hi ⟨_, h1, fun _ z => by cases z⟩ r, r⟩
theorem itr_tup {m : Nat} {ds : List D} {v : V} (hm : m ≤ n) (r : RelD X.w X.K Γ n ρ H m (.tup ds) v) : ∃ a, v = .ref a ∧ (∃ xs, SqT X.K H a xs) ∧ ItR X Γ n ρ H ds (Itt X.K a) := by
  obtain ⟨a, vs, rfl, hs, rs⟩ := RelD.tup_seq r
  refine ⟨a, rfl, ⟨vs, hs⟩, fun i n1 ρ1 H1 h1 x hr => ?_⟩
  obtain ⟨a', vs', e, hs', rs'⟩ := RelD.tup_seq (r.mono0 (m' := m) x hm (Nat.le_refl _))
  cases e
  refine ⟨fun d hd => ?_, fun e => ⟨vs', hs', by rw [← rs'.length, e]; exact Nat.le_refl _⟩⟩
  obtain ⟨v, hv, rv⟩ := rs'.get hd
  exact ⟨⟨vs', v, hs', hv⟩, fun y H' ⟨e1, e2⟩ => by
    subst e1
    have := e2 vs' hs'
    rw [hv] at this
    cases this
    exact ⟨n1, ρ1, Ext.refl, hr, rv.up⟩⟩
theorem itr_lst {m : Nat} {ds : List D} {v : V} (hm : m ≤ n) (r : RelD X.w X.K Γ n ρ H m (.lst ds) v) : ∃ a, v = .ref a ∧ (∃ xs, SqL X.K H a xs) ∧ ItR X Γ n ρ H ds (Itl X.K a) := by
  obtain ⟨a, vs, rfl, hs, rs⟩ := RelD.lst_seq r
  refine ⟨a, rfl, ⟨vs, hs⟩, fun i n1 ρ1 H1 h1 x hr => ?_⟩
  obtain ⟨a', vs', e, hs', rs'⟩ := RelD.lst_seq (r.mono0 (m' := m) x hm (Nat.le_refl _))
  cases e
  refine ⟨fun d hd => ?_, fun e => ⟨vs', hs', by rw [← rs'.length, e]; exact Nat.le_refl _⟩⟩
  obtain ⟨v, hv, rv⟩ := rs'.get hd
  exact ⟨⟨vs', v, hs', hv⟩, fun y H' ⟨e1, e2⟩ => by
    subst e1
    have := e2 vs' hs'
    rw [hv] at this
    cases this
    exact ⟨n1, ρ1, Ext.refl, hr, rv.up⟩⟩
def ivVal (f : Ev) : Env' → AH → Res (List D) := fun E h => bindR (f E h) itR
/-- iter(v): a tuple, a list -/
theorem iter_ok {pins : List (Addr × Obj)} {s1 : Shared} {H1 : Hp} {v : Value} {x : V} {d : D} {h1 : AH} {n1 : Nat} {ρ1 : Rho} {R : It → Hp → Prop} {Wx : Value → Option Addr → Hp → Prop} (I1 : Inv X pins σ H1 s1) (r1 : RelV x v) (hr1 : HR X Γ n1 ρ1 H1 h1) (rd : RD X Γ n1 ρ1 H1 d x) (q1 : Post X Γ (ItR X Γ) n1 ρ1 H1 Wx (itR d h1) R) :
    wpAny (model X.prog X.w) X.A (pyIter v) (PIE X pins σ tg R) X.xe s1 := by
  have lst : ∀ {a : Addr}, x = .ref a → (∃ xs, SqL X.K H1 a xs) → R (Itl X.K a) H1 → wpAny (model X.prog X.w) X.A (pyIter v) (PIE X pins σ tg R) X.xe s1 := fun {a} e hx q => by
    subst e
    cases r1
    obtain ⟨xs, hq⟩ := hx
    obtain ⟨its, rv, p, hz⟩ := I1.list hq
    refine wpAny_pyIter_list p.isList ?_
    refine ⟨s1.heap.objs.size, [s1.heap.objs.size], _, _, H1, rfl, I1.kept (t' := s1.toks) fun b o e => Heap.get?_push_of_some _ e, turn_list a _, ⟨_, Heap.get?_push_size _ rfl, rfl, rfl⟩, fun b hb => ?_, q⟩
    have e : b = s1.heap.objs.size := by simpa using hb
    subst e
    exact I1.fpOk (Nat.le_refl _) (I1.hok.fresh (Nat.le_refl _))
  have tup : ∀ {a : Addr}, x = .ref a → (∃ xs, SqT X.K H1 a xs) → R (Itt X.K a) H1 → wpAny (model X.prog X.w) X.A (pyIter v) (PIE X pins σ tg R) X.xe s1 := fun {a} e hx q => by
    subst e
    cases r1
    obtain ⟨xs, hq⟩ := hx
    obtain ⟨its, rv, p, hz⟩ := I1.tuple hq
    refine wpAny_pyIter_tuple (show s1.heap.IsTuple a its.toArray from p) ?_
    refine ⟨s1.heap.objs.size, [s1.heap.objs.size], _, _, H1, rfl, I1.kept (t' := s1.toks) fun b o e => Heap.get?_push_of_some _ e, turn_tuple a _, ⟨_, Heap.get?_push_size _ rfl, rfl, rfl⟩, fun b hb => ?_, q⟩
    have e : b = s1.heap.objs.size := by simpa using hb
    subst e
    exact I1.fpOk (Nat.le_refl _) (I1.hok.fresh (Nat.le_refl _))
  cases d with
  | tup ds =>
    obtain ⟨a, e, hx, ir⟩ := itr_tup (Nat.le_refl _) rd
    exact tup e hx (q1 _ n1 ρ1 H1 Ext.refl hr1 ir)
  | lst ds =>
    obtain ⟨a, e, hx, ir⟩ := itr_lst (Nat.le_refl _) rd
    exact lst e hx (q1 _ n1 ρ1 H1 Ext.refl hr1 ir)
  | ref i =>
    simp only [itR] at q1
    cases rd with
    | ref hi =>
      cases q : h1[i]? with
      | none => rw [q] at q1; exact q1.elim
      | some o =>
        simp only [q] at q1
        cases o with
        | lst ys =>
          obtain ⟨x2, hr2, r2⟩ := frz_lst hr1 hi q
          obtain ⟨a, e2, hx, ir⟩ := itr_lst (Nat.zero_le _) r2
          exact lst e2 hx (q1 _ n1 _ H1 x2 hr2 ir)
        | fz d =>
          have z := hr1.at_ i _ q
          cases d with
          | lst ys =>
            obtain ⟨a, e2, hx, ir⟩ := itr_lst (Nat.zero_le _) z.2.2
            exact lst e2 hx (q1 _ n1 ρ1 H1 Ext.refl hr1 ir)
          | tup ys =>
            obtain ⟨a, e2, hx, ir⟩ := itr_tup (Nat.zero_le _) z.2.2
            exact tup e2 hx (q1 _ n1 ρ1 H1 Ext.refl hr1 ir)
          | _ => exact q1.elim
        | _ => exact q1.elim
  | _ => exact q1.elim
/-- over a value: a tuple, a list -/
theorem di_val {iter : Expr} {f : Env' → AH → Res D} (p : DE X Γ W iter f) : DI X Γ W tg iter (ivVal f) := by
  refine ⟨fun pins s σ H R I ⟨E, h0, n, ρ, er, hr, q⟩ => ?_⟩
  exact thn (p.run pins s σ H _ I ⟨E, h0, n, ρ, er, hr, Post.bind (R := RelT X.w X.K Γ) q⟩) fun v s1 ⟨x, H1, I1, r1, d, h1, n1, ρ1, x1, hr1, rd, q1⟩ => iter_ok I1 r1 hr1 rd q1
/-- range(n), range(a, b) -/
def rngD (lo : Int) (k : Nat) : List D := (List.range k).map fun i => .int (lo + (i : Nat))
theorem itr_rng {lo : Int} {k : Nat} : ItR X Γ n ρ H (rngD lo k) (Itr lo k) := by
  refine fun i n1 ρ1 H1 h1 x hr => ⟨fun d hd => ?_, fun e => ?_⟩
  · have hi : i < k := by
      have := (List.getElem?_eq_some_iff.mp hd).1
      simpa [rngD] using this
    refine ⟨hi, fun y H' ⟨e1, e2⟩ => ?_⟩
    subst e1 e2
    have e3 : D.int (lo + (i : Nat)) = d := by
      rw [rngD, List.getElem?_map, List.getElem?_range hi] at hd
      exact Option.some.inj hd
    subst e3
    exact ⟨n1, ρ1, Ext.refl, hr, .int _⟩
  · show k ≤ i
    rw [e]
    simp [rngD]
def b62 (i : Int) : Bool := decide (-(2 ^ 62) ≤ i) && decide (i < 2 ^ 62)
def rngA (ds : List D) (h : AH) : Res (List D) := match ds with
  | [d] => match d with
    | .int j => if b62 j = true then okR (rngD 0 j.toNat) h else none
    | _ => none
  | _ => none
def rngB (ds : List D) (h : AH) : Res (List D) := match ds with
  | [d, e] => match d, e with
    | .int i, .int j => if (b62 i && b62 j) = true then okR (rngD i (j - i).toNat) h else none
    | _, _ => none
  | _ => none
def ivRange1 (g : Env' → AH → Res (List D)) : Env' → AH → Res (List D) := fun E h => bindR (g E h) rngA
def ivRange2 (g : Env' → AH → Res (List D)) : Env' → AH → Res (List D) := fun E h => bindR (g E h) rngB
theorem b62_of {i : Int} (h : b62 i = true) : -(2 ^ 62) ≤ i ∧ i < 2 ^ 62 := by
  obtain ⟨a, b⟩ := Bool.and_eq_true_iff.mp h
  exact ⟨of_decide_eq_true a, of_decide_eq_true b⟩
theorem di_range1 {a : Expr} {p pos : Pos} {g : Env' → AH → Res (List D)} (hg : Gl X "range") (hm : X.mg "range" = none) (pa : DA X Γ W [a] g) (hs : starEach [a] X.env = [(false, eval a X.env)]) :
    DI X Γ W tg (.Call (.Name "range" p) [a] [] pos) (ivRange1 g) :=
  PI.imp (pi_range1 hg hm pa hs) fun σ H R ⟨E, h0, n, ρ, er, hr, q⟩ => ⟨E, h0, n, ρ, er, hr, (Post.bind (R := RelTs X.w X.K Γ) q).imp fun vs H1 ⟨ds, h1, n1, ρ1, x1, hr1, rd, q1⟩ => by
    match ds, rd, q1 with
    | [], _, q1 => exact q1.elim
    | _ :: _ :: _, _, q1 => exact q1.elim
    | [d], .cons r .nil, q1 =>
      cases d with
      | int j =>
        cases r
        simp only [rngA] at q1
        by_cases hb : b62 j = true
        · rw [if_pos hb] at q1
          obtain ⟨b1, b2⟩ := b62_of hb
          exact ⟨j, rfl, b1, b2, q1.okR hr1 itr_rng⟩
        · rw [if_neg hb] at q1; exact q1.elim
      | _ => exact q1.elim⟩
theorem di_range2 {a b : Expr} {p pos : Pos} {g : Env' → AH → Res (List D)} (hg : Gl X "range") (hm : X.mg "range" = none) (pa : DA X Γ W [a, b] g) (hs : starEach [a, b] X.env = [(false, eval a X.env), (false, eval b X.env)]) (hs2 : starEach [b] X.env = [(false, eval b X.env)]) :
    DI X Γ W tg (.Call (.Name "range" p) [a, b] [] pos) (ivRange2 g) :=
  PI.imp (pi_range2 hg hm pa hs hs2) fun σ H R ⟨E, h0, n, ρ, er, hr, q⟩ => ⟨E, h0, n, ρ, er, hr, (Post.bind (R := RelTs X.w X.K Γ) q).imp fun vs H1 ⟨ds, h1, n1, ρ1, x1, hr1, rd, q1⟩ => by
    match ds, rd, q1 with
    | [], _, q1 => exact q1.elim
    | [_], _, q1 => exact q1.elim
    | _ :: _ :: _ :: _, _, q1 => exact q1.elim
    | [d, e], .cons r (.cons r' .nil), q1 =>
      cases d with
      | int i =>
        cases e with
        | int j =>
          cases r
          cases r'
          simp only [rngB] at q1
          by_cases hb : (b62 i && b62 j) = true
          · rw [if_pos hb] at q1
            obtain ⟨c1, c2⟩ := Bool.and_eq_true_iff.mp hb
            obtain ⟨b1, b2⟩ := b62_of c1
            obtain ⟨b3, b4⟩ := b62_of c2
            exact ⟨i, j, rfl, ⟨b1, b2, b3, b4⟩, q1.okR hr1 itr_rng⟩
          · rw [if_neg hb] at q1; exact q1.elim
        | _ => exact q1.elim
      | _ => exact q1.elim⟩

/-! ### while -/
def whileL (fc : Env' → AH → Res Bool) (fb : Env' → AH → SRes) : Nat → Env' → AH → SRes
  | 0, _, _ => none
  | m + 1, E, h => bindE (fc E h) E fun b h1 => match b with
    | false => some (.next E, h1)
    | true => match fb E h1 with
      | some (.next E1, h2) => whileL fc fb m E1 h2
      | some (.cont E1, h2) => whileL fc fb m E1 h2
      | some (.brk E1, h2) => some (.next E1, h2)
      | r => r
def svWhile (fuel : Nat) (fc : Env' → AH → Res Bool) (fb : Sv) : Sv := fun E h => whileL fc fb fuel E h
theorem ds_while {c : Expr} {body : List Stmt} {pos : Pos} {fc : Env' → AH → Res Bool} {fb : Env' → AH → SRes} (fuel : Nat) (hp : PassesOwn (model X.prog X.w) X.A X.env X.xe) (pc : DT X Γ W c fc) (pb : DSs X Γ W body fb) :
    DS X Γ W (.While c body [] pos) (svWhile fuel fc fb) :=
  PS.imp (ps_while hp pc pb) fun Z σ H ⟨E, h, n, ρ, er, hr, q⟩ => by
    refine ⟨fun m σ H => ∃ E h n ρ, EnvR X Γ n ρ H E σ ∧ HR X Γ n ρ H h ∧ PostS X Γ n ρ H W (whileL fc fb m E h) Z, ⟨fuel, E, h, n, ρ, er, hr, q⟩, ?_⟩
    rintro m σ H ⟨E, h, n, ρ, er, hr, q⟩
    cases m with
    | zero => exact q.elim
    | succ m =>
      refine ⟨E, h, n, ρ, er, hr, (PostS.expr (R := fun _ _ _ (a b : Bool) => a = b) er q).imp fun b H1 ⟨b', h1, n1, ρ1, x1, hr1, rb, q1⟩ => ?_⟩
      subst rb
      cases b' with
      | false => exact iteF (q1 σ n1 ρ1 H1 Ext.refl hr1 (er.mono x1))
      | true =>
        refine iteT ⟨fun σ' H' => ∃ E h n ρ, EnvR X Γ n ρ H' E σ' ∧ HR X Γ n ρ H' h ∧ PostS X Γ n ρ H' W (whileL fc fb m E h) Z, fun σ' H' z => ⟨m, Nat.lt_succ_self m, z⟩, E, h1, n1, ρ1, er.mono x1, hr1, ?_⟩
        have q1 : PostS X Γ n1 ρ1 H1 W (match fb E h1 with
          | some (.next E1, h2) => whileL fc fb m E1 h2
          | some (.cont E1, h2) => whileL fc fb m E1 h2
          | some (.brk E1, h2) => some (.next E1, h2)
          | r => r) Z := q1
        cases e : fb E h1 with
        | none => rw [e] at q1; exact q1.elim
        | some r =>
          obtain ⟨fl, h2⟩ := r
          rw [e] at q1
          cases fl with
          | next E1 => exact fun σ' n2 ρ2 H2 y hr2 er2 => ⟨E1, h2, n2, ρ2, er2, hr2, PostS.mono y q1⟩
          | cont E1 => exact fun σ' n2 ρ2 H2 y hr2 er2 => ⟨E1, h2, n2, ρ2, er2, hr2, PostS.mono y q1⟩
          | brk E1 => exact q1
          | ret d => exact q1
          | exc E1 c fs => exact q1
/-! ### for -/
def forL (k : D → Env' → AH → SRes) : List D → Env' → AH → SRes
  | [], E, h => some (.next E, h)
  | d :: ds, E, h => match k d E h with
    | some (.next E1, h2) => forL k ds E1 h2
    | some (.cont E1, h2) => forL k ds E1 h2
    | some (.brk E1, h2) => some (.next E1, h2)
    | r => r
def turnD (t : Tg) (fb : Env' → AH → SRes) : D → Env' → AH → SRes := fun d E h => match asg t d E with
  | some E1 => fb E1 h
  | none => none
def svFor (t : Tg) (fi : Env' → AH → Res (List D)) (fb : Sv) : Sv := fun E h => bindE (fi E h) E fun p h1 => forL (turnD t fb) p E h1
theorem ds_for {iter : Expr} {body : List Stmt} {pos : Pos} {t : Tg} {fi : Env' → AH → Res (List D)} {fb : Env' → AH → SRes} (hp : PassesOwn (model X.prog X.w) X.A X.env X.xe) (hc : X.calm = true) (pi : DI X Γ W tg iter fi) (pg : DG X Γ tg t) (pb : DSs X Γ W body fb)
    (hs : ∀ x, foldedSetIterable iter X.env x = pure x) : DS X Γ W (.For tg iter body [] pos) (svFor t fi fb) :=
  PS.imp (ps_for hp hc pi pg pb hs) fun Z σ H ⟨E, h, n, ρ, er, hr, q⟩ => ⟨E, h, n, ρ, er, hr, (PostS.expr (R := ItR X Γ) er q).imp fun J H1 ⟨ds, h1, n1, ρ1, x1, hr1, ir, q1⟩ => by
    refine ⟨fun i m σ H => m + i = ds.length ∧ ∃ E h n ρ, Ext n1 ρ1 H1 n ρ H ∧ EnvR X Γ n ρ H E σ ∧ HR X Γ n ρ H h ∧ PostS X Γ n ρ H W (forL (turnD t fb) (ds.drop i) E h) Z, ⟨ds.length, rfl, E, h1, n1, ρ1, Ext.refl, er.mono x1, hr1, q1⟩, ?_⟩
    rintro i m σ H ⟨hm, E, h, n, ρ, x, er, hr, q⟩
    by_cases hi : i < ds.length
    · have hd : ds.drop i = ds[i] :: ds.drop (i + 1) := List.drop_eq_getElem_cons hi
      rw [hd, forL] at q
      · obtain ⟨go, yl⟩ := (ir i n ρ H h x.toExt0 hr).1 ds[i] (List.getElem?_eq_getElem hi)
        refine .inr ⟨go, fun σ' H' => m - 1 + (i + 1) = ds.length ∧ ∃ E h n ρ, Ext n1 ρ1 H1 n ρ H' ∧ EnvR X Γ n ρ H' E σ' ∧ HR X Γ n ρ H' h ∧ PostS X Γ n ρ H' W (forL (turnD t fb) (ds.drop (i + 1)) E h) Z, fun σ' H' z => ⟨m - 1, by omega, z⟩, fun y H' hy => ?_⟩
        obtain ⟨n2, ρ2, x2, hr2, r2⟩ := yl y H' hy
        unfold turnD at q
        cases e : asg t ds[i] E with
        | none => rw [e] at q; exact q.elim
        | some E1 =>
          rw [e] at q
          refine ⟨E, h, n2, ρ2, ds[i], er.mono x2, hr2, r2, E1, e, fun σ3 er3 _ => ⟨E1, h, n2, ρ2, er3, hr2, ?_⟩⟩
          have q : PostS X Γ n ρ H W (match fb E1 h with
            | some (.next E1, h2) => forL (turnD t fb) (ds.drop (i + 1)) E1 h2
            | some (.cont E1, h2) => forL (turnD t fb) (ds.drop (i + 1)) E1 h2
            | some (.brk E1, h2) => some (.next E1, h2)
            | r => r) Z := q
          cases e2 : fb E1 h with
          | none => rw [e2] at q; exact q.elim
          | some r =>
            obtain ⟨fl, h3⟩ := r
            rw [e2] at q
            cases fl with
            | next E2 => exact fun σ' n3 ρ3 H3 y3 hr3 er3 => ⟨by omega, E2, h3, n3, ρ3, (x.trans x2).trans y3, er3, hr3, PostS.mono (x2.trans y3) q⟩
            | cont E2 => exact fun σ' n3 ρ3 H3 y3 hr3 er3 => ⟨by omega, E2, h3, n3, ρ3, (x.trans x2).trans y3, er3, hr3, PostS.mono (x2.trans y3) q⟩
            | brk E2 => exact fun σ' n3 ρ3 H3 y3 hr3 er3 => q σ' n3 ρ3 H3 (x2.trans y3) hr3 er3
            | ret d => exact fun v n3 ρ3 H3 y3 hr3 er3 => q v n3 ρ3 H3 (x2.trans y3) hr3 er3
            | exc E2 c fs => exact fun σ' cls dd n3 ρ3 H3 y3 hr3 er3 xr => q σ' cls dd n3 ρ3 H3 (x2.trans y3) hr3 er3 xr
    · have hd : ds.drop i = [] := List.drop_of_length_le (by omega)
      rw [hd, forL] at q
      · exact .inl ⟨(ir i n ρ H h x.toExt0 hr).2 (by show i = ds.length; omega), q σ n ρ H Ext.refl hr er⟩⟩

end
end MP
set_option Elab.async false
set_option linter.all false
set_option maxRecDepth 100000
set_option maxHeartbeats 4000000
/-! MPG: list comprehensions. -/
namespace MP
open PySem PySem.Spec PyProof.Rows L2
/-- nothing may leave -/
abbrev W0 : WX := fun _ _ _ _ => False
def wipeE (E : Env') : List Nat → Env'
  | [] => E
  | v :: vs => (wipeE E vs).set v none
/-- the items of a comprehension: those that pass the test, by the element -/
def lcL (t : Tg) (ft : Env' → AH → Res Bool) (fe : Env' → AH → Res D) : List D → Env' → AH → Option (List D × AH)
  | [], _, h => some ([], h)
  | d :: ds, E, h => match asg t d E with
    | none => none
    | some E1 => match ft E1 h with
      | some (.ok false, h1) => lcL t ft fe ds E h1
      | some (.ok true, h1) => match fe E1 h1 with
        | some (.ok y, h2) => match isV y with
          | true => match lcL t ft fe ds E h2 with
            | some (ys, h3) => some (y :: ys, h3)
            | none => none
          | false => none
        | _ => none
      | _ => none
/-- the new list: a value, or one that may be changed -/
def kpV (ys : List D) (h : AH) : Res D := okR (.lst ys) h
def kpM (ys : List D) (h : AH) : Res D := okR (.ref h.length) (h ++ [.lst ys])
def MkOk (mk : List D → AH → Res D) : Prop := ∀ {X : Cx} {Γ : Gm} {n₀ n : Nat} {ρ₀ ρ : Rho} {H₀ H : Hp} {h₀ h : AH} {Dd : Addr} {ds : List D} {vs : List V} {Q : VK} {Wx : Value → Option Addr → Hp → Prop}, Ext n₀ ρ₀ H₀ n ρ H → HR X Γ n₀ ρ₀ H₀ h₀ → H₀ Dd = none → HR X Γ n ρ H h → ρ.ban Dd → H Dd = some (.lst vs) → RDs0 X Γ n ρ H ds vs →
  PostE X Γ n₀ ρ₀ H₀ Wx (mk ds h) Q → Q (.ref Dd) H
theorem kpV_ok : MkOk kpV := by
  intro X Γ n₀ n ρ₀ ρ H₀ H h₀ h Dd ds vs Q Wx x hr hD hr' hb hDd ra q
  exact q _ n (unban ρ Dd) H (x.unbanNew hr hD) hr'.unban (.lst hDd (hr'.unbanned hb) (ra.mono0 Ext0.unban (Nat.zero_le _) (Nat.zero_le _)))
theorem keepF_adopt {n : Nat} {ρ : Rho} {H : Hp} {p : Addr} (hb : ρ.ban p) : KeepF n ρ H (n + 1) (put (unban ρ p) n p) H := by
  refine fun b u h f => ⟨h, fun z => f.1 z.1, fun i hi hz => ?_⟩
  by_cases e : i = n
  · subst e; rw [put_same]; exact fun z => f.1 (by rw [z]; exact hb)
  · rw [put_lt (by omega)]; exact f.2 i (by omega) fun z => hz ((put_fz (by omega)).mpr z)
theorem Ext0.adopt {n : Nat} {ρ : Rho} {H : Hp} {p : Addr} (hb : ρ.ban p) : Ext0 n ρ H (n + 1) (put (MP.unban ρ p) n p) H := ⟨Nat.le_succ _, fun i hi => put_lt hi, fun b u h f _ => keepF_adopt hb b u h f⟩
theorem HRel.adopt {w : World} {K : PySem.W.Frag} {Γ : Gm} {n : Nat} {ρ : Rho} {H : Hp} {h : AH} (r : HRel w K Γ n ρ H h) {p : Addr} {ao : AO} (hb : ρ.ban p) (q : ORel w K Γ (n + 1) (put (MP.unban ρ p) n p) H n p ao) : HRel w K Γ (n + 1) (put (MP.unban ρ p) n p) H (h ++ [ao]) := by
  have fr : ∀ i, i < n → p ≠ ρ.to i := fun i hi e => r.nb i hi (by rw [← e]; exact hb)
  refine ⟨by rw [List.length_append, r.len]; rfl, fun i j hi hj e => ?_, fun i hi => ?_, fun b z => r.live b z.1, fun i ob e => ?_, r.tab.keep (keepF_adopt hb)⟩
  · by_cases a : i = n
    · by_cases b : j = n
      · rw [a, b]
      · rw [a, put_same, put_lt (by omega)] at e
        exact absurd e (fr j (by omega))
    · by_cases b : j = n
      · rw [b, put_same, put_lt (by omega)] at e
        exact absurd e.symm (fr i (by omega))
      · rw [put_lt (by omega), put_lt (by omega)] at e
        exact r.inj i j (by omega) (by omega) e
  · rw [put_ban]
    by_cases a : i = n
    · rw [a, put_same]; exact fun z => z.2 rfl
    · rw [put_lt (by omega)]; exact fun z => r.nb i (by omega) z.1
  · by_cases hi : i < n
    · rw [List.getElem?_append_left (by rw [r.len]; exact hi)] at e
      rw [put_lt hi]
      exact ORel.mono (Ext0.adopt hb) (put_fz hi) (fun u q => q) (r.at_ i ob e)
    · rw [List.getElem?_append_right (by rw [r.len]; omega), r.len] at e
      have hz : i - n = 0 := by
        cases q : i - n with
        | zero => rfl
        | succ k => rw [q] at e; simp at e
      have hin : i = n := by omega
      rw [hz] at e
      have e2 : ao = ob := by simpa using e
      subst e2
      rw [hin, put_same]
      exact q
theorem Ext.adoptNew {w : World} {K : PySem.W.Frag} {Γ : Gm} {n n₀ : Nat} {ρ ρ₀ : Rho} {H H₀ : Hp} {p : Addr} {h₀ : AH} (x : Ext n₀ ρ₀ H₀ n ρ H) (hr : HRel w K Γ n₀ ρ₀ H₀ h₀) (hp : H₀ p = none) (hb : ρ.ban p) : Ext n₀ ρ₀ H₀ (n + 1) (put (MP.unban ρ p) n p) H :=
  ⟨⟨Nat.le_succ_of_le x.le, fun i hi => (put_lt (Nat.lt_of_lt_of_le hi x.le)).trans (x.same i hi), fun b u h f t => let ⟨h1, f1⟩ := x.keep b u h f t; keepF_adopt hb b u h1 f1⟩, (x.unbanNew hr hp).bans, x.bkeep⟩
theorem kpM_ok : MkOk kpM := by
  intro X Γ n₀ n ρ₀ ρ H₀ H h₀ h Dd ds vs Q Wx x hr hD hr' hb hDd ra q
  have e : RD X Γ (n + 1) (put (unban ρ Dd) n Dd) H (.ref h.length) (.ref Dd) := by
    have := RelD.ref (w := X.w) (K := X.K) (Γ := Γ) (n := n + 1) (ρ := put (unban ρ Dd) n Dd) (H := H) (m := n + 1) (i := n) (Nat.lt_succ_self _)
    rw [put_same] at this
    rw [hr'.len]
    exact this
  exact q _ (n + 1) (put (unban ρ Dd) n Dd) H (x.adoptNew hr hD hb) (hr'.adopt hb ⟨put_nfz, vs, hDd, ra.mono0 (Ext0.adopt hb) (Nat.zero_le _) (Nat.zero_le _)⟩) e
def lcR (mk : List D → AH → Res D) (t : Tg) (ft : Env' → AH → Res Bool) (fe : Env' → AH → Res D) (E0 : Env') (p : List D) (h : AH) : Res D := if decide (p.length ≤ sizeLine) = true then (match lcL t ft fe p E0 h with
  | some (ys, h1) => mk ys h1
  | none => none) else none
section
variable {X : Cx} {Γ : Gm} {W : WX} {n n' : Nat} {ρ ρ' : Rho} {H H' : Hp} {E : Env'} {σ : L2.St} {h : AH} {tg : Expr}
theorem EnvR.wipe (er : EnvR X Γ n ρ H E σ) : ∀ vs : List Nat, EnvR X Γ n ρ H (wipeE E vs) (L2.wipe σ vs)
  | [] => er
  | v :: vs => by
    have ih := EnvR.wipe er vs
    unfold wipeE L2.wipe
    refine ⟨by rw [List.length_set, List.length_set]; exact ih.len, fun j d e => ?_⟩
    by_cases hj : v = j
    · subst hj
      by_cases hl : v < (wipeE E vs).length
      · rw [List.getElem?_set_self hl] at e; cases e
      · rw [List.getElem?_eq_none (by rw [List.length_set]; omega)] at e; cases e
    · rw [List.getElem?_set_ne hj] at e ⊢
      exact ih.at_ j d e
theorem wipe_same {σ σ2 : L2.St} {S : List Nat} : ∀ {vs : List Nat}, (∀ i ∈ S, i ∈ vs) → SameS S (L2.wipe σ vs) σ2 → L2.wipe σ2 vs = L2.wipe σ vs := by
  intro vs hS hs
  have len : ∀ (τ : L2.St) (us : List Nat), (L2.wipe τ us).length = τ.length := fun τ us => L2.wipe_length τ us
  have at_in : ∀ (τ : L2.St) (us : List Nat) (j : Nat), j ∈ us → j < τ.length → (L2.wipe τ us)[j]? = some none := by
    intro τ us j
    induction us with
    | nil => intro hj; cases hj
    | cons u us ih =>
      intro hj hl
      unfold L2.wipe
      by_cases e : u = j
      · subst e; rw [List.getElem?_set_self (by rw [len]; exact hl)]
      · rw [List.getElem?_set_ne e]
        rcases List.mem_cons.mp hj with z | z
        · exact absurd z.symm e
        · exact ih z hl
  have at_out : ∀ (τ : L2.St) (us : List Nat) (j : Nat), j ∉ us → (L2.wipe τ us)[j]? = τ[j]? := fun τ us j hj => L2.wipe_out hj
  apply List.ext_getElem?
  intro j
  have hl : σ2.length = σ.length := by rw [hs.1, len]
  by_cases hj : j ∈ vs
  · by_cases hlt : j < σ.length
    · rw [at_in σ2 vs j hj (by omega), at_in σ vs j hj hlt]
    · rw [List.getElem?_eq_none (by rw [len]; omega), List.getElem?_eq_none (by rw [len]; omega)]
  · rw [at_out σ2 vs j hj, hs.2 j fun z => hj (hS j z)]
/-- the tests of a clause -/
abbrev DTs (X : Cx) (Γ : Gm) (W : WX) (ifs : List Expr) (f : Env' → AH → Res Bool) : Prop := PTs X ifs (tDT X Γ W f)
theorem PTs.imp {X : Cx} {ifs : List Expr} {t t' : TT} (p : PTs X ifs t) (h : ∀ σ H Q, t' σ H Q → t σ H Q) : PTs X ifs t' := ⟨fun pins s σ H Q I q => p.run pins s σ H Q I (h σ H Q q)⟩
def tvTrue : Env' → AH → Res Bool := fun _ h => okR true h
theorem dts_nil : DTs X Γ W [] tvTrue := PTs.imp pts_nil fun σ H Q ⟨E, h0, n, ρ, er, hr, q⟩ => q.okR hr rfl
theorem dts_one {c : Expr} {f : Env' → AH → Res Bool} (p : DT X Γ W c f) : DTs X Γ W [c] f := pts_one p
/-- what a comprehension's reading asks, from the evaluation -/
theorem lc_read {mk : List D → AH → Res D} (hmk : MkOk mk) {J : It} {t : Tg} {ft : Env' → AH → Res Bool} {fe : Env' → AH → Res D} {vs : List Nat} {ds : List D} {Q : VK} {Wx : Value → Option Addr → Hp → Prop} (hS : ∀ i ∈ slots t, i ∈ vs) (er : EnvR X Γ n ρ H E σ) (hr : HR X Γ n ρ H h) (ir : ItR X Γ n ρ H ds J)
    (q : PostE X Γ n ρ H Wx (lcR mk t ft fe (wipeE E vs) ds h) Q) : ∀ Dd, H Dd = none → ∃ Wi : Nat → Nat → Hp → Prop, (∃ m, Wi 0 m (upd H Dd (.lst []))) ∧ ∀ i m H, Wi i m H →
      (J.stop i H ∧ Q (.ref Dd) H) ∨ (J.go i H ∧ ∃ Nx : Hp → Prop, (∀ H', Nx H' → ∃ m', m' < m ∧ Wi (i + 1) m' H') ∧ ∀ x H', J.yld i H x H' → tgD X Γ (asg t) (slots t) x (L2.wipe σ vs) H' fun σ2 H2 => L2.wipe σ2 vs = L2.wipe σ vs ∧ tDT X Γ W0 ft σ2 H2 fun b H3 =>
        if b = true then tD X Γ W0 fe σ2 H3 fun y H4 => ∃ acc, H4 Dd = some (.lst acc) ∧ acc.length < sizeLine ∧ Nx (upd H4 Dd (.lst (acc ++ [y]))) else Nx H3) := by
  intro Dd hD
  unfold lcR at q
  by_cases hz : decide (ds.length ≤ sizeLine) = true
  · rw [if_pos hz] at q
    have hz' : ds.length ≤ sizeLine := of_decide_eq_true hz
    -- the invariant
    let Wi : Nat → Nat → Hp → Prop := fun i m H' => m + i = ds.length ∧ ∃ h' n' ρ' acc accd, Ext n ρ H n' ρ' H' ∧ ρ'.ban Dd ∧ H' Dd = some (.lst acc) ∧ RDs0 X Γ n' ρ' H' accd acc ∧ accd.length ≤ i ∧ HR X Γ n' ρ' H' h' ∧
      ∃ ys h2, lcL t ft fe (ds.drop i) (wipeE E vs) h' = some (ys, h2) ∧ PostE X Γ n ρ H Wx (mk (accd ++ ys) h2) Q
    refine ⟨Wi, ⟨ds.length, rfl, h, n, ban ρ Dd, [], [], Ext.banned hD, .inr rfl, upd_same, .nil, Nat.zero_le _, hr.banned hD, ?_⟩, ?_⟩
    · cases e : lcL t ft fe ds (wipeE E vs) h with
      | none => rw [e] at q; exact q.elim
      | some r => obtain ⟨ys, h2⟩ := r; rw [e] at q; exact ⟨ys, h2, e, q⟩
    · rintro i m H' ⟨hm, h', n', ρ', acc, accd, x, hb, hDd, ra, hl, hr', ys, h2, el, q'⟩
      have er' : EnvR X Γ n' ρ' H' (wipeE E vs) (L2.wipe σ vs) := (er.wipe vs).mono x
      by_cases hi : i < ds.length
      · have hd : ds.drop i = ds[i] :: ds.drop (i + 1) := List.drop_eq_getElem_cons hi
        rw [hd, lcL] at el
        · obtain ⟨go, yl⟩ := (ir i n' ρ' H' h' x.toExt0 hr').1 ds[i] (List.getElem?_eq_getElem hi)
          refine .inr ⟨go, fun H'' => Wi (i + 1) (m - 1) H'', fun H'' z => ⟨m - 1, by omega, z⟩, fun y H1 hy => ?_⟩
          obtain ⟨n1, ρ1, x1, hr1, r1⟩ := yl y H1 hy
          cases e1 : asg t ds[i] (wipeE E vs) with
          | none => rw [e1] at el; cases el
          | some E1 =>
            rw [e1] at el
            simp only at el
            refine ⟨wipeE E vs, h', n1, ρ1, ds[i], er'.mono x1, hr1, r1, E1, e1, fun σ2 er2 s2 => ⟨wipe_same hS s2, E1, h', n1, ρ1, er2, hr1, ?_⟩⟩
            cases e2 : ft E1 h' with
            | none => rw [e2] at el; cases el
            | some r =>
              obtain ⟨o, h3⟩ := r
              rw [e2] at el
              cases o with
              | exc c fs => cases el
              | ok b =>
                intro b' n3 ρ3 H3 x3 hr3 eb
                subst eb
                cases b with
                | false => exact iteF ⟨by omega, h3, n3, ρ3, acc, accd, (x.trans x1).trans x3, (x1.trans x3).bans _ hb, (x1.trans x3).bkeep _ _ hb hDd, ra.monoP (x1.trans x3), Nat.le_succ_of_le hl, hr3, ys, h2, el, q'⟩
                | true =>
                  refine iteT ⟨E1, h3, n3, ρ3, er2.mono x3, hr3, ?_⟩
                  simp only at el
                  cases e4 : fe E1 h3 with
                  | none => rw [e4] at el; cases el
                  | some r4 =>
                    obtain ⟨o4, h4⟩ := r4
                    rw [e4] at el
                    cases o4 with
                    | exc c fs => cases el
                    | ok yd =>
                      intro yv n4 ρ4 H4 x4 hr4 ry
                      have xa := (x1.trans x3).trans x4
                      have hb4 := xa.bans _ hb
                      refine ⟨acc, xa.bkeep _ _ hb hDd, by rw [← ra.length]; omega, ?_⟩
                      simp only at el
                      cases ev : isV yd with
                      | false => rw [ev] at el; cases el
                      | true =>
                      rw [ev] at el
                      simp only at el
                      cases e5 : lcL t ft fe (ds.drop (i + 1)) (wipeE E vs) h4 with
                      | none => rw [e5] at el; cases el
                      | some r5 =>
                        obtain ⟨ys5, h5⟩ := r5
                        rw [e5] at el
                        cases el
                        refine ⟨by omega, h4, n4, ρ4, acc ++ [yv], accd ++ [yd], (x.trans xa).overNew hD, hb4, upd_same, RelDs.mono0 (Ext0.over hb4) (Nat.zero_le _) (Nat.zero_le _) ((ra.monoP xa).append (.cons (ry.down ev) .nil)), by rw [List.length_append]; exact Nat.succ_le_succ hl, hr4.over hb4, ys5, h2, e5, ?_⟩
                        rw [List.append_assoc]
                        exact q'
      · have hd : ds.drop i = [] := List.drop_of_length_le (by omega)
        rw [hd, lcL] at el
        · cases el
          refine .inl ⟨(ir i n' ρ' H' h' x.toExt0 hr').2 (by show i = ds.length; omega), ?_⟩
          rw [List.append_nil] at q'
          exact hmk x hr hD hr' hb hDd ra q'
  · rw [if_neg hz] at q; exact q.elim
abbrev blkAll (X : Cx) (scope : Scope) (P : Cx → Prop) : Prop := ∀ (s : Shared) (H : Hp) (C : Addr) (cl : List (Str × Addr)) (fp : List Addr), P (X.blk s H scope (compEnvC scope cl C X.env) fp)
def evLc (mk : List D → AH → Res D) (own : List Nat) (t : Tg) (fi : Env' → AH → Res (List D)) (ft : Env' → AH → Res Bool) (fe : Ev) : Ev := fun E h => bindR (fi E h) (lcR mk t ft fe (wipeE E own))
theorem de_lc {mk : List D → AH → Res D} (hmk : MkOk mk) {elt iter : Expr} {ifs : List Expr} {scope : Scope} {own : List (Str × Nat)} {pos : Pos} {t : Tg} {fi : Env' → AH → Res (List D)} {ft : Env' → AH → Res Bool} {fe : Env' → AH → Res D} (hc : X.calm = true) (hN : X.N.Nodup) (pi : DI X Γ W tg iter fi) (ok : BlkOk X.N X.env.scope scope own)
    (hS : ∀ i ∈ slots t, i ∈ own.map (·.2)) (hg : blkAll X scope fun Y => DG Y Γ tg t) (ht : blkAll X scope fun Y => DTs Y Γ W0 ifs ft) (he : blkAll X scope fun Y => DE Y Γ W0 elt fe) (hs : ∀ x, foldedSetIterable iter X.env x = pure x) :
    DE X Γ W (.ListComp elt [⟨tg, iter, ifs, 0⟩] scope pos) (evLc mk (own.map (·.2)) t fi ft fe) :=
  PE.imp (pe_lc (g := tgD X Γ (asg t) (slots t)) (tt := tDT X Γ W0 ft) (te := tD X Γ W0 fe) hc hN pi ok hg ht he hs) fun σ H Q ⟨E, h, n, ρ, er, hr, q⟩ => ⟨E, h, n, ρ, er, hr, (Post.bind (R := ItR X Γ) q).imp fun J H1 ⟨p, h1, n1, ρ1, x1, hr1, ir, q1⟩ => lc_read hmk hS (er.mono x1) hr1 ir q1⟩
/-- y = [..] where the model stores within -/
theorem ds_setLc {mk : List D → AH → Res D} (hmk : MkOk mk) {i : Nat} {y : Str} {py : Pos} {elt iter : Expr} {ifs : List Expr} {scope : Scope} {own : List (Str × Nat)} {pos spos : Pos} {t : Tg} {fi : Env' → AH → Res (List D)} {ft : Env' → AH → Res Bool} {fe : Env' → AH → Res D} (hc : X.calm = true) (hN : X.N.Nodup)
    (hy : X.N[i]? = some y) (hyl : X.env.scope.names.lookup y = some .local) (hsw : swapsWith (.ListComp elt [⟨tg, iter, ifs, 0⟩] scope pos) (some (.Name y py)) spos.line X.env = pure true) (pi : DI X Γ W tg iter fi) (ok : BlkOk X.N X.env.scope scope own)
    (hS : ∀ i ∈ slots t, i ∈ own.map (·.2)) (hg : blkAll X scope fun Y => DG Y Γ tg t) (ht : blkAll X scope fun Y => DTs Y Γ W0 ifs ft) (he : blkAll X scope fun Y => DE Y Γ W0 elt fe) (hs : ∀ x, foldedSetIterable iter X.env x = pure x) :
    DS X Γ W (.Assign [.Name y py] (.ListComp elt [⟨tg, iter, ifs, 0⟩] scope pos) spos) (svSet i (evLc mk (own.map (·.2)) t fi ft fe)) :=
  PS.imp (ps_setLc (g := tgD X Γ (asg t) (slots t)) (tt := tDT X Γ W0 ft) (te := tD X Γ W0 fe) hc hN hy hyl hsw pi ok hg ht he hs) fun Z σ H ⟨E, h, n, ρ, er, hr, q⟩ => by
    have q2 := PostS.expr (R := RelT X.w X.K Γ) er q
    refine ⟨E, h, n, ρ, er, hr, (Post.bind (R := ItR X Γ) q2).imp fun J H1 ⟨p, h1, n1, ρ1, x1, hr1, ir, q1⟩ => ?_⟩
    refine lc_read hmk (Q := fun x H1 => gName i x σ H1 Z.nx) hS (er.mono x1) hr1 ir (q1.imp fun v H2 ⟨d, h2, n2, ρ2, x2, hr2, rd, q3⟩ => ?_)
    exact q3 _ n2 ρ2 H2 Ext.refl hr2 ((er.mono x2).set rd)
end
end MP
set_option Elab.async false
set_option linter.all false
set_option maxRecDepth 100000
set_option maxHeartbeats 4000000
/-! MPK: looking up and storing in a dict whose keys are numbers, texts, None, nested tuples, all mixed: by the entries themselves. -/
namespace MP
open PySem PySem.Spec PyProof.Rows
section
variable {prog : Program} {w : World} {A : Around} {E : Value → Shared → Prop} {s : Shared}
/-- the entries es have the keys ks -/
structure Ent (w : World) (h : Heap) (ks : List NestedKey) (es : Array DictEntry) : Prop where
  len : ks.length = es.size
  at_ : ∀ (i : Nat) (e : DictEntry) (k : NestedKey), es[i]? = some e → ks[i]? = some k → NestedIs h k e.key ∧ k.depth ≤ 8 ∧ e.hash = k.hash w
  nd : ks.Nodup
theorem Ent.key {h : Heap} {ks : List NestedKey} {es : Array DictEntry} (n : Ent w h ks es) {i : Nat} {e : DictEntry} (q : es[i]? = some e) : ∃ k, ks[i]? = some k ∧ NestedIs h k e.key ∧ k.depth ≤ 8 ∧ e.hash = k.hash w := by
  have hi : i < ks.length := by rw [n.len]; exact (Array.getElem?_eq_some_iff.mp q).1
  exact ⟨ks[i], List.getElem?_eq_getElem hi, n.at_ i e _ q (List.getElem?_eq_getElem hi)⟩
theorem mem_places {n : Nat} {f : Nat → Option Int} {h : Int} {j : Nat} : j ∈ placesWithHash n f h ↔ j < n ∧ f j = some h := by
  simp [placesWithHash]
theorem nodup_places {n : Nat} {f : Nat → Option Int} {h : Int} : (placesWithHash n f h).Nodup := List.Pairwise.filter _ List.nodup_range
theorem nd_at {ks : List NestedKey} (nd : ks.Nodup) {i j : Nat} {k : NestedKey} (hi : ks[i]? = some k) (hj : ks[j]? = some k) : i = j :=
  (List.getElem?_inj (List.getElem?_eq_some_iff.mp hi).1 nd).mp (hi.trans hj.symm)
/-- one stored key is asked -/
theorem ask_key {d : Addr} {o : Obj} {es : Array DictEntry} {ep : Nat} {k k' : NestedKey} {u key : Value} {part : Option String} {Q : Bool → Shared → Prop} (hu : A.units + 8 < cLine) (hk : NestedIs s.heap k key) (hk' : NestedIs s.heap k' u) (hd' : k'.depth ≤ 8) (q : Q (decide (k' = k)) s) :
    wpAny (model prog w) A (eqBool u key) Q E s := by
  refine eqAt_key k' k A s u key hk' hk ?_ prog w E Q (by rw [← NestedKey.decide_eq]; exact q)
  have : min k'.depth k.depth ≤ k'.depth := Nat.min_le_left _ _
  omega
theorem find_key {d : Addr} {o : Obj} {es : Array DictEntry} {ep : Nat} {ks : List NestedKey} {k : NestedKey} {key : Value} {Q : Option Nat → Shared → Prop} (hu : A.units + 8 < cLine) (hk : NestedIs s.heap k key) (hdp : k.depth ≤ 8)
    (ho : s.heap.get? d = some o) (hd : o.data = .dict es ep) (n : Ent w s.heap ks es) (hnone : (∀ j : Nat, ks[j]? ≠ some k) → Q none s) (hsome : ∀ j : Nat, ks[j]? = some k → Q (some j) s) :
    wpAny (model prog w) A (dictFind d key (k.hash w)) Q E s := by
  -- where the key may stand
  have tgt : ∀ j : Nat, ks[j]? = some k → j ∈ placesWithHash es.size (fun i => es[i]?.map (·.hash)) (k.hash w) := fun j hj => by
    have hl : j < es.size := by rw [← n.len]; exact (List.getElem?_eq_some_iff.mp hj).1
    refine mem_places.mpr ⟨hl, ?_⟩
    have q : es[j]? = some es[j] := Array.getElem?_eq_getElem hl
    show Option.map (·.hash) es[j]? = _
    rw [q, Option.map_some, (n.at_ j _ k q hj).2.2]
  have plc : ∀ j ∈ placesWithHash es.size (fun i => es[i]?.map (·.hash)) (k.hash w), ∃ e k', es[j]? = some e ∧ ks[j]? = some k' ∧ NestedIs s.heap k' e.key ∧ k'.depth ≤ 8 ∧ (e.hash == k.hash w) = true := fun j hj => by
    obtain ⟨hl, he⟩ := mem_places.mp hj
    have q : es[j]? = some es[j] := Array.getElem?_eq_getElem hl
    obtain ⟨k', h1, h2, h3, h4⟩ := n.key q
    refine ⟨_, k', q, h1, h2, h3, ?_⟩
    have he : Option.map (·.hash) es[j]? = some (k.hash w) := he
    rw [q, Option.map_some] at he
    exact beq_iff_eq.mpr (Option.some.inj he)
  have ndp := nodup_places (n := es.size) (f := fun i => es[i]?.map (·.hash)) (h := k.hash w)
  unfold dictFind
  try with_reducible refine wpAny_holding ?_
  refine wpAny_bind (wpAny_dictEntries ho hd ?_)
  dsimp only
  generalize hP : placesWithHash es.size (fun i => es[i]?.map (·.hash)) (k.hash w) = P at tgt plc ndp ⊢
  -- the walk where all is carried by value
  have plain : wpAny (model prog w) A (dictWalkPlain d key (k.hash w) es P) Q E s := by
    refine wpAny_bind ?_
    refine wpAny_forIn_list _ (fun rest b s' => s' = s ∧ b = (none, ()) ∧ (∀ j ∈ rest, j ∈ P) ∧ ∀ j : Nat, ks[j]? = some k → j ∈ rest) _ ?_ ?_ _ _ ⟨rfl, rfl, fun _ z => z, tgt⟩
    · rintro x rest b s' ⟨rfl, rfl, hP, ht⟩
      obtain ⟨e, k', h1, h2, h3, h4, h5⟩ := plc x (hP x List.mem_cons_self)
      simp only [h1]
      rw [if_pos h5]
      refine wpAny_bind (wpAny_dictEpoch ho hd (wpAny_bind (ask_key (d := d) (o := o) (es := es) (ep := ep) (part := none) hu hk h3 h4 (wpAny_bind (wpAny_dictEpoch ho hd ?_)))))
      show wpAny _ _ (if (ep != ep) = true then _ else _) _ E _
      rw [if_neg (by simp)]
      by_cases hkk : k' = k
      · rw [decide_eq_true hkk]
        subst hkk
        exact wpAny_bind (wpAny_rule (wpAny_pure (wpAny_pure (hsome x h2))))
      · rw [decide_eq_false hkk]
        refine wpAny_bind (wpAny_rule (wpAny_pure ⟨rfl, rfl, fun j hj => hP j (List.mem_cons_of_mem _ hj), fun j hj => ?_⟩))
        rcases List.mem_cons.mp (ht j hj) with e2 | e2
        · subst e2; rw [h2] at hj; exact absurd (Option.some.inj hj) hkk
        · exact e2
    · rintro b s' ⟨rfl, rfl, hP, ht⟩
      refine wpAny_pure (hnone fun j hj => ?_)
      cases ht j hj
  -- the walk where some key is an object
  have slow : ∀ tells : Bool, tells = false → wpAny (model prog w) A (do
      if tells && (P.filterMap fun i => es[i]?.map (·.key)).length ≥ 2 then unsupported "dict.find:order-among-keys-of-one-hash"
      let mut ht : Option Nat := none
      for i in P do
        if let some e := es[i]? then
          if e.hash == k.hash w then
            let b0 ← dictEpoch d (keyPart key)
            let sm ← eqBool e.key key
            if (← dictEpoch d (keyPart key)) != b0 then unsupported "dict.changed-during-lookup"
            if sm then
              if ht.isSome then unsupported "dict.find:order-among-keys-of-one-hash"
              rule "dict.find.hit"; if (P.filterMap fun i => es[i]?.map (·.key)).length < 2 then return some i
              ht := some i
            else
              rule "dict.find.same-hash-other-key"; if tells && !(0 ≤ k.hash w && k.hash w < 32) then unsupported "dict.find:asked-again-or-not-hangs-on-the-table"
      return ht) Q E s := by
    intro tells ht0
    subst ht0
    rw [if_neg (by simp)]
    refine wpAny_bind ?_
    refine wpAny_forIn_list _ (fun rest b s' => s' = s ∧ ∃ hit, b = (none, hit) ∧ rest.Nodup ∧ (∀ j ∈ rest, j ∈ P) ∧ ((hit = none ∧ ∀ j : Nat, ks[j]? = some k → j ∈ rest) ∨ ∃ j, hit = some j ∧ ks[j]? = some k ∧ j ∉ rest)) _ ?_ ?_ _ _ ⟨rfl, none, rfl, ndp, fun _ z => z, .inl ⟨rfl, tgt⟩⟩
    · rintro x rest b s' ⟨rfl, hit, rfl, hnd, hP, ht⟩
      have hnd2 := List.nodup_cons.mp hnd
      obtain ⟨e, k', h1, h2, h3, h4, h5⟩ := plc x (hP x List.mem_cons_self)
      have hP2 : ∀ j ∈ rest, j ∈ P := fun j hj => hP j (List.mem_cons_of_mem _ hj)
      simp only [h1]
      rw [if_pos h5]
      refine wpAny_bind (wpAny_dictEpoch ho hd (wpAny_bind (ask_key (d := d) (o := o) (es := es) (ep := ep) (part := none) hu hk h3 h4 (wpAny_bind (wpAny_dictEpoch ho hd ?_)))))
      show wpAny _ _ (if (ep != ep) = true then _ else _) _ E _
      rw [if_neg (by simp)]
      by_cases hkk : k' = k
      · rw [decide_eq_true hkk]
        subst hkk
        rcases ht with ⟨rfl, ht⟩ | ⟨j, rfl, hj, hjn⟩
        · first | rw [if_pos rfl] | skip
          simp only [Option.isSome_none, Bool.false_eq_true, if_false]
          first | refine wpAny_bind (wpAny_pure ?_) | skip
          refine wpAny_bind (wpAny_rule ?_)
          split
          · exact wpAny_pure (wpAny_pure (hsome x h2))
          · exact wpAny_pure ⟨rfl, some x, rfl, hnd2.2, hP2, .inr ⟨x, rfl, h2, hnd2.1⟩⟩
        · exact absurd (nd_at n.nd hj h2 ▸ List.mem_cons_self) hjn
      · rw [decide_eq_false hkk]
        simp only [Bool.false_eq_true, if_false]
        refine wpAny_bind (wpAny_rule ?_)
        have next : (hit = none ∧ ∀ j : Nat, ks[j]? = some k → j ∈ rest) ∨ ∃ j, hit = some j ∧ ks[j]? = some k ∧ j ∉ rest := by
          rcases ht with ⟨e0, ht⟩ | ⟨j, e0, hj, hjn⟩
          · refine .inl ⟨e0, fun j hj => ?_⟩
            rcases List.mem_cons.mp (ht j hj) with e2 | e2
            · subst e2; rw [h2] at hj; exact absurd (Option.some.inj hj) hkk
            · exact e2
          · exact .inr ⟨j, e0, hj, fun z => hjn (List.mem_cons_of_mem _ z)⟩
        first | rw [if_neg (by simp)] | skip
        first
          | exact wpAny_pure ⟨rfl, hit, rfl, hnd2.2, hP2, next⟩
          | exact wpAny_bind (wpAny_pure (wpAny_pure ⟨rfl, hit, rfl, hnd2.2, hP2, next⟩))
    · rintro b s' ⟨rfl, hit, rfl, hnd, hP, ht⟩
      rcases ht with ⟨rfl, ht⟩ | ⟨j, rfl, hj, _⟩
      · refine wpAny_pure (hnone fun j hj => ?_)
        cases ht j hj
      · exact wpAny_pure (hsome j hj)
  -- none of them tells
  have quiet : ∀ (v : Value) (k' : NestedKey), NestedIs s.heap k' v → k'.depth ≤ 8 → ∀ Q' : Bool → Shared → Prop, Q' true s → wpAny (model prog w) A (eqIsQuiet 8 v) Q' E s := fun v k' h1 h2 Q' q => quiet_key k' v 8 s h1 h2 A E Q' q
  have sto : ∀ v ∈ P.filterMap (fun i => es[i]?.map (·.key)), ∃ k', NestedIs s.heap k' v ∧ k'.depth ≤ 8 := fun v hv => by
    obtain ⟨i, hi, he⟩ := List.mem_filterMap.mp hv
    obtain ⟨e, k', h1, _, h3, h4, _⟩ := plc i hi
    rw [h1, Option.map_some] at he
    cases he
    exact ⟨k', h3, h4⟩
  have tell : ∀ Q' : Bool → Shared → Prop, Q' false s → wpAny (model prog w) A (tableMayTell key (P.filterMap fun i => es[i]?.map (·.key))) Q' E s := fun Q' q => by
    unfold tableMayTell
    split
    · exact wpAny_pure q
    · refine wpAny_bind (quiet key k hk hdp _ ?_)
      simp only [Bool.not_true, Bool.false_eq_true, if_false]
      refine wpAny_bind (wpAny_forIn_list _ (fun rest r s' => s' = s ∧ r = (none, ()) ∧ ∀ v ∈ rest, ∃ k', NestedIs s.heap k' v ∧ k'.depth ≤ 8) _ ?_ ?_ _ _ ⟨rfl, rfl, sto⟩)
      · rintro v rest r s' ⟨rfl, rfl, hr⟩
        obtain ⟨k', h1, h2⟩ := hr v List.mem_cons_self
        refine wpAny_bind (quiet v k' h1 h2 _ ?_)
        simp only [Bool.not_true, Bool.false_eq_true, if_false]
        exact wpAny_pure ⟨rfl, rfl, fun u z => hr u (List.mem_cons_of_mem _ z)⟩
      · rintro r s' ⟨rfl, rfl, _⟩
        exact wpAny_pure q
  have rest : (∀ a, key = .ref a → ¬ (es.any fun e => e.key == key && e.hash != k.hash w) = true) → wpAny (model prog w) A (do
      if (key :: P.filterMap fun i => es[i]?.map (·.key)).all carriedByValue then return ← dictWalkPlain d key (k.hash w) es P
      if let .ref _ := key then
        if es.any fun e => e.key == key && e.hash != k.hash w then unsupported "dict.find:a-stored-key-whose-hash-has-changed"
      let tells ← if (P.filterMap fun i => es[i]?.map (·.key)) == [key] then pure false else tableMayTell key (P.filterMap fun i => es[i]?.map (·.key))
      if tells && (P.filterMap fun i => es[i]?.map (·.key)).length ≥ 2 then unsupported "dict.find:order-among-keys-of-one-hash"
      let mut ht : Option Nat := none
      for i in P do
        if let some e := es[i]? then
          if e.hash == k.hash w then
            let b0 ← dictEpoch d (keyPart key)
            let sm ← eqBool e.key key
            if (← dictEpoch d (keyPart key)) != b0 then unsupported "dict.changed-during-lookup"
            if sm then
              if ht.isSome then unsupported "dict.find:order-among-keys-of-one-hash"
              rule "dict.find.hit"; if (P.filterMap fun i => es[i]?.map (·.key)).length < 2 then return some i
              ht := some i
            else
              rule "dict.find.same-hash-other-key"; if tells && !(0 ≤ k.hash w && k.hash w < 32) then unsupported "dict.find:asked-again-or-not-hangs-on-the-table"
      return ht) Q E s := by
    intro hany
    by_cases hc : ((key :: P.filterMap fun i => es[i]?.map (·.key)).all carriedByValue) = true
    · rw [if_pos hc]
      exact plain
    · rw [if_neg hc]
      by_cases hst : ((P.filterMap fun i => es[i]?.map (·.key)) == [key]) = true
      · cases key with
        | ref a =>
          simp only [if_neg (hany a rfl)]
          rw [if_pos hst]
          exact slow false rfl
        | _ =>
          simp only
          rw [if_pos hst]
          exact slow false rfl
      · cases key with
        | ref a =>
          simp only [if_neg (hany a rfl)]
          rw [if_neg hst]
          exact wpAny_bind (tell _ (slow false rfl))
        | _ =>
          simp only
          rw [if_neg hst]
          exact wpAny_bind (tell _ (slow false rfl))
  have ent : ∀ e ∈ es, ∃ (i : Nat) (k' : NestedKey), ks[i]? = some k' ∧ es[i]? = some e ∧ NestedIs s.heap k' e.key ∧ k'.depth ≤ 8 ∧ e.hash = k'.hash w := fun e he => by
    obtain ⟨i, hi, q⟩ := Array.mem_iff_getElem.mp he
    have q2 : es[i]? = some e := by rw [Array.getElem?_eq_getElem hi, q]
    obtain ⟨k', h1, h2⟩ := n.key q2
    exact ⟨i, k', h1, q2, h2⟩
  cases key with
  | ref a =>
    refine rest fun b _ => ?_
    rw [← Array.any_toList, List.any_eq_true]
    rintro ⟨e, hin, hc⟩
    obtain ⟨i, k', h1, h2, h3, h4, h5⟩ := ent e (Array.mem_toList_iff.mp hin)
    rw [Bool.and_eq_true, beq_iff_eq, bne_iff_ne] at hc
    rw [hc.1] at h3
    exact hc.2 (by rw [h5, NestedIs.inj _ _ _ h3 hk])
  | str x t =>
    change wpAny _ _ (if (es.all fun e => isExactStrKey e.key) = true then _ else _) Q E s
    by_cases hall : (es.all fun e => isExactStrKey e.key) = true
    · rw [if_pos hall]
      have hkx : k = .text x := by cases hk; rfl
      subst hkx
      unfold foundByValue
      have isx : ∀ (i : Nat) (e : DictEntry) (k' : NestedKey), es[i]? = some e → ks[i]? = some k' → (e.key.isStr x = true ↔ k' = .text x) := fun i e k' h1 h2 => by
        have hs : isExactStrKey e.key = true := by
          rw [← Array.all_toList, List.all_eq_true] at hall
          exact hall e (Array.mem_toList_iff.mpr (Array.mem_of_getElem? h1))
        obtain ⟨z, _, _⟩ := n.at_ i e k' h1 h2
        cases hek : e.key with
        | str y t' =>
          rw [hek] at z
          cases z
          exact ⟨fun q => by
            have : y = x := by simpa [Value.isStr] using q
            rw [this], fun q => by cases q; simp [Value.isStr]⟩
        | _ => rw [hek] at hs; cases hs
      cases hf : es.findIdx? (fun e => e.key.isStr x) with
      | none =>
        refine wpAny_pure (hnone fun j hj => ?_)
        have hl : j < es.size := by rw [← n.len]; exact (List.getElem?_eq_some_iff.mp hj).1
        have q : es[j]? = some es[j] := Array.getElem?_eq_getElem hl
        have z := Array.findIdx?_eq_none_iff.mp hf es[j] (Array.getElem_mem hl)
        rw [(isx j _ _ q hj).mpr rfl] at z
        cases z
      | some i =>
        obtain ⟨hl, hi, _⟩ := Array.findIdx?_eq_some_iff_getElem.mp hf
        have q : es[i]? = some es[i] := Array.getElem?_eq_getElem hl
        obtain ⟨k', h1, h2, h3, h4⟩ := n.key q
        have hkk := (isx i _ _ q h1).mp hi
        simp only [q]
        refine wpAny_bind (wpAny_dictEpoch ho hd (wpAny_bind (ask_key (d := d) (o := o) (es := es) (ep := ep) (part := none) hu hk h2 h3 (wpAny_bind (wpAny_dictEpoch ho hd ?_)))))
        show wpAny _ _ (if (ep != ep) = true then _ else _) _ E _
        rw [if_neg (by simp), decide_eq_true hkk]
        subst hkk
        exact wpAny_bind (wpAny_rule (wpAny_pure (hsome i h1)))
    · rw [if_neg hall]
      exact rest fun b hb => by cases hb
  | _ => exact rest fun b hb => by cases hb
/-- at d stands a dict with the entries es, whose keys are ks -/
structure DictIs (w : World) (h : Heap) (d : Addr) (o : Obj) (ks : List NestedKey) (es : Array DictEntry) (ep : Nat) : Prop where
  get : h.get? d = some o
  exact_ : o.ExactDict
  data : o.data = .dict es ep
  ent : Ent w h ks es
theorem DictIs.typeIs {d : Addr} {o : Obj} {ks : List NestedKey} {es : Array DictEntry} {ep : Nat} (x : DictIs w s.heap d o ks es ep) : s.TypeIs (.ref d) "dict" := ⟨o, x.get, x.exact_.1⟩
section
variable {d : Addr} {o : Obj} {es : Array DictEntry} {ep : Nat} {ks : List NestedKey} {k : NestedKey} {key v : Value}
/-- what a lookup gives -/
inductive Hit (ks : List NestedKey) (k : NestedKey) (es : Array DictEntry) : Option Value → Prop
  | no : (∀ j : Nat, ks[j]? ≠ some k) → Hit ks k es none
  | yes {j : Nat} {e : DictEntry} : ks[j]? = some k → es[j]? = some e → Hit ks k es (some e.val)
theorem get_key {Q : Option Value → Shared → Prop} (hu : A.units + 8 < cLine) (hk : NestedIs s.heap k key) (hdp : k.depth ≤ 8) (x : DictIs w s.heap d o ks es ep) (q : ∀ r, Hit ks k es r → Q r { s with toks := s.toks + k.draws }) :
    wpAny (model prog w) A (dictGet d key) Q E s := by
  unfold dictGet
  try with_reducible refine wpAny_holding ?_
  refine wpAny_bind (pyHash_key k key A s _ hk (by omega) (wpAny_bind (find_key (s := { s with toks := s.toks + k.draws }) hu hk hdp x.get x.data x.ent (fun hn => wpAny_pure (q none (.no hn))) fun j hj => ?_)))
  refine wpAny_bind (wpAny_dictEntries (s := { s with toks := s.toks + k.draws }) x.get x.data ?_)
  have hl : j < es.size := by rw [← x.ent.len]; exact (List.getElem?_eq_some_iff.mp hj).1
  have qe : es[j]? = some es[j] := Array.getElem?_eq_getElem hl
  rw [qe]
  exact wpAny_pure (q _ (.yes hj qe))
/-- the dict with a key's value stored -/
inductive Put (w : World) (ks : List NestedKey) (k : NestedKey) (es : Array DictEntry) (key v : Value) : Array DictEntry → Prop
  | new : (∀ j : Nat, ks[j]? ≠ some k) → Put w ks k es key v (es.push ⟨k.hash w, key, v⟩)
  | old {j : Nat} : ks[j]? = some k → Put w ks k es key v (es.modify j fun e => { e with val := v })
theorem set_key {Q : Unit → Shared → Prop} (hu : A.units + 8 < cLine) (hk : NestedIs s.heap k key) (hdp : k.depth ≤ 8) (x : DictIs w s.heap d o ks es ep) (hz : es.size ≤ sizeLine)
    (q : ∀ h' o' es' ep', h'.get? d = some o' → o'.ExactDict → o'.data = .dict es' ep' → Put w ks k es key v es' → Heap.SameBut d s.heap h' → Q () { s with heap := h', toks := s.toks + k.draws }) :
    wpAny (model prog w) A (dictSet d key v) Q E s := by
  unfold dictSet
  try with_reducible refine wpAny_holding ?_
  refine wpAny_bind (pyHash_key k key A s _ hk (by omega) ?_)
  unfold dictSetHashed
  try with_reducible refine wpAny_holding ?_
  refine wpAny_bind (find_key (s := { s with toks := s.toks + k.draws }) hu hk hdp x.get x.data x.ent (fun hn => ?_) fun j hj => ?_)
  · exact wpAny_bind (wpAny_rule (wpAny_updateDictKeys (hz := by omega) (s := { s with toks := s.toks + k.draws }) x.get x.data (q _ _ _ (ep + 1) (Heap.get?_update_self _ x.get (Obj.isFreed_of_dict (Obj.data_mapDictKeys x.data _))) (x.exact_.mapDictKeys _) (Obj.data_mapDictKeys x.data _) (.new hn) (Heap.SameBut.update ..))))
  · exact wpAny_bind (wpAny_rule (wpAny_bind (wpAny_updateDict (s := { s with toks := s.toks + k.draws }) x.get x.data (wpAny_point (q _ _ _ ep (Heap.get?_update_self _ x.get (Obj.isFreed_of_dict (Obj.data_mapDict x.data _))) (x.exact_.mapDict _) (Obj.data_mapDict x.data _) (.old hj) (Heap.SameBut.update ..))))))
theorem contains_key {Q : Bool → Shared → Prop} (hu : A.units + 16 < cLine) (hs : (d == sysModules) = false) (hk : NestedIs s.heap k key) (hdp : k.depth ≤ 8) (x : DictIs w s.heap d o ks es ep) (q : ∀ r, Hit ks k es r → Q r.isSome { s with toks := s.toks + k.draws }) :
    wpAny (model prog w) A (contains (.ref d) key) Q E s := by
  refine wpAny_contains_slot x.typeIs F.slot_dict_contains ?_
  refine call_meetsIn F.slot_dict_contains x.typeIs F.entry_dict_contains (F.args_dict_contains_2 _ _) (S := fun A' R s' => A' = A ∧ s' = s ∧ ∀ r, Hit ks k es r → R (.ok (.ret (.bool r.isSome))) { s with toks := s.toks + k.draws }) (fun A' R s' hS => ?_) ⟨rfl, rfl, fun r hr => wpAny_truthy_bool (q r hr)⟩
  obtain ⟨rfl, rfl, hq⟩ := hS
  show wpAny _ _ (dictGet d key >>= _) _ _ _
  refine wpAny_bind (get_key (by rw [Around.in1_units]; omega) hk hdp x fun r hr => ?_)
  have z := hq r hr
  cases r with
  | some u =>
    show wpAny _ _ (ret (.bool true)) _ _ _
    exact wpAny_pure z
  | none =>
    show wpAny _ _ (Builtin.Dict.pendingKey? d key >>= _) _ _ _
    exact wpAny_bind (wpAny_pendingKey_other hs (wpAny_pure z))
theorem in_key {Q : Value → Shared → Prop} (hu : A.units + 16 < cLine) (hs : (d == sysModules) = false) (hk : NestedIs s.heap k key) (hdp : k.depth ≤ 8) (x : DictIs w s.heap d o ks es ep) (q : ∀ r, Hit ks k es r → Q (.bool r.isSome) { s with toks := s.toks + k.draws }) :
    wpAny (model prog w) A (compareOp .In key (.ref d)) Q E s := wpAny_bind (contains_key hu hs hk hdp x fun r hr => wpAny_pure (q r hr))
theorem notIn_key {Q : Value → Shared → Prop} (hu : A.units + 16 < cLine) (hs : (d == sysModules) = false) (hk : NestedIs s.heap k key) (hdp : k.depth ≤ 8) (x : DictIs w s.heap d o ks es ep) (q : ∀ r, Hit ks k es r → Q (.bool (!r.isSome)) { s with toks := s.toks + k.draws }) :
    wpAny (model prog w) A (compareOp .NotIn key (.ref d)) Q E s := wpAny_bind (contains_key hu hs hk hdp x fun r hr => wpAny_pure (q r hr))
theorem getItem_key {Q : Value → Shared → Prop} (hu : A.units + 16 < cLine) (hk : NestedIs s.heap k key) (hdp : k.depth ≤ 8) (x : DictIs w s.heap d o ks es ep) {j : Nat} (hj : ks[j]? = some k) (q : ∀ e, es[j]? = some e → Q e.val { s with toks := s.toks + k.draws }) :
    wpAny (model prog w) A (getItem (.ref d) key) Q E s := by
  unfold getItem
  try with_reducible refine wpAny_holding ?_
  refine wpAny_bind (wpAny_sequenceKey x.typeIs (by decide) (wpAny_bind ?_))
  refine wpAny_callSpecial?_slot (name := Str.ofString "__getitem__") x.typeIs slot_dict_getitem (wpAny_call_entry slot_dict_getitem x.typeIs entry_dict_getitem ?_ (args_dict_getitem _ _))
  show wpAny _ _ (dictGet d key >>= _) _ _ s
  refine wpAny_bind (get_key (by rw [Around.in1_units]; omega) hk hdp x fun r hr => ?_)
  cases hr with
  | no hn => exact absurd hj (hn j)
  | yes hi he =>
    have e := nd_at x.ent.nd hi hj
    subst e
    exact wpAny_pure ⟨_, rfl, wpAny_pure (q _ he)⟩
theorem setItem_key {Q : Unit → Shared → Prop} (hu : A.units + 16 < cLine) (hk : NestedIs s.heap k key) (hdp : k.depth ≤ 8) (x : DictIs w s.heap d o ks es ep) (hz : es.size ≤ sizeLine)
    (q : ∀ h' o' es' ep', h'.get? d = some o' → o'.ExactDict → o'.data = .dict es' ep' → Put w ks k es key v es' → Heap.SameBut d s.heap h' → Q () { s with heap := h', toks := s.toks + k.draws }) :
    wpAny (model prog w) A (setItem (.ref d) key v) Q E s := by
  unfold setItem
  try with_reducible refine wpAny_holding ?_
  refine wpAny_bind (wpAny_sequenceKey x.typeIs (by decide) (wpAny_bind ?_))
  refine wpAny_callSpecial?_slot (name := Str.ofString "__setitem__") x.typeIs slot_dict_setitem (wpAny_call_entry slot_dict_setitem x.typeIs entry_dict_setitem ?_ (args_dict_setitem _ _ _))
  show wpAny _ _ (Builtin.Dict.notOrdered "__setitem__" ⟨[.ref d, key, v], []⟩ >>= _) _ _ s
  refine wpAny_bind (wpAny_notOrdered_dict x.typeIs ?_)
  show wpAny _ _ (dictSet d key v >>= _) _ _ s
  exact wpAny_bind (set_key (by rw [Around.in1_units]; omega) hk hdp x hz fun h' o' es' ep' a b c e f => wpAny_pure ⟨.none, rfl, wpAny_pure (q h' o' es' ep' a b c e f)⟩)
theorem callGet_key {Q : Value → Shared → Prop} (hu : A.units + 16 < cLine) (hs : (d == sysModules) = false) (hk : NestedIs s.heap k key) (hdp : k.depth ≤ 8) (x : DictIs w s.heap d o ks es ep) (q : ∀ r, Hit ks k es r → Q (r.getD .none) { s with toks := s.toks + k.draws }) :
    wpAny (model prog w) A (call (.builtin "dict.get") [.ref d, key]) Q E s := by
  refine call_meetsIn F.slot_dict_get x.typeIs F.entry_dict_get (F.args_dict_get_2 _ _) (S := fun A' R s' => A' = A ∧ s' = s ∧ ∀ r, Hit ks k es r → R (.ok (.ret (r.getD .none))) { s with toks := s.toks + k.draws }) (.of_wp fun A' R s' hS => ?_) ⟨rfl, rfl, fun r hr => q r hr⟩
  obtain ⟨rfl, rfl, hq⟩ := hS
  show wpAny _ _ (dictGet d key >>= _) _ _ _
  refine wpAny_bind (get_key (by rw [Around.in1_units]; omega) hk hdp x fun r hr => ?_)
  have z := hq r hr
  cases r with
  | some u => exact wpAny_pure ⟨u, rfl, z⟩
  | none =>
    show wpAny _ _ (Builtin.Dict.missed d key >>= _) _ _ _
    exact wpAny_bind (wpAny_missed_other hs (wpAny_pure ⟨.none, rfl, z⟩))
theorem setDef_key {Q : Value → Shared → Prop} (hu : A.units + 16 < cLine) (hs : (d == sysModules) = false) (hk : NestedIs s.heap k key) (hdp : k.depth ≤ 8) (x : DictIs w s.heap d o ks es ep) (hz : es.size ≤ sizeLine)
    (q1 : ∀ (j : Nat) (e : DictEntry), ks[j]? = some k → es[j]? = some e → Q e.val { s with toks := s.toks + k.draws })
    (q2 : ∀ h' o' es' ep', h'.get? d = some o' → o'.ExactDict → o'.data = .dict es' ep' → (∀ j : Nat, ks[j]? ≠ some k) → Put w ks k es key v es' → Heap.SameBut d s.heap h' → Q v { s with heap := h', toks := s.toks + k.draws }) :
    wpAny (model prog w) A (call (.builtin "dict.setdefault") [.ref d, key, v]) Q E s := by
  refine call_meetsIn F.slot_dict_setdefault x.typeIs F.entry_dict_setdefault (F.args_dict_setdefault_3 _ _ _) (S := fun A' R s' => A' = A ∧ s' = s ∧ (∀ (j : Nat) (e : DictEntry), ks[j]? = some k → es[j]? = some e → R (.ok (.ret e.val)) { s with toks := s.toks + k.draws }) ∧
    ∀ h' o' es' ep', h'.get? d = some o' → o'.ExactDict → o'.data = .dict es' ep' → (∀ j : Nat, ks[j]? ≠ some k) → Put w ks k es key v es' → Heap.SameBut d s.heap h' → R (.ok (.ret v)) { s with heap := h', toks := s.toks + k.draws }) (.of_wp fun A' R s' hS => ?_) ⟨rfl, rfl, q1, q2⟩
  obtain ⟨rfl, rfl, q1, q2⟩ := hS
  unfold Builtin.«dict.setdefault»
  refine wpAny_bind ?_
  unfold Builtin.Dict.keyAndDefault
  refine wpAny_bind (wpAny_notOrdered_dict x.typeIs ?_)
  show wpAny _ _ (pure (d, key, some v)) _ _ _
  refine wpAny_pure ?_
  show wpAny _ _ (if (d == sysModules) = true then _ else (dictSetDefault d key v >>= _)) _ _ _
  rw [if_neg (by rw [hs]; exact Bool.false_ne_true)]
  refine wpAny_bind ?_
  unfold dictSetDefault
  try with_reducible refine wpAny_holding ?_
  have hu' : A'.in1.units + 8 < cLine := by rw [Around.in1_units]; omega
  refine wpAny_bind (pyHash_key k key _ _ _ hk (by omega) ?_)
  refine wpAny_bind (find_key (s := { s' with toks := s'.toks + k.draws }) hu' hk hdp x.get x.data x.ent (fun hn => ?_) fun j hj => ?_)
  · refine wpAny_bind (wpAny_rule (wpAny_bind (wpAny_updateDictKeys (hz := by omega) (s := { s' with toks := s'.toks + k.draws }) x.get x.data (wpAny_pure (wpAny_pure ⟨v, rfl, ?_⟩)))))
    exact q2 _ _ _ (ep + 1) (Heap.get?_update_self _ x.get (Obj.isFreed_of_dict (Obj.data_mapDictKeys x.data _))) (x.exact_.mapDictKeys _) (Obj.data_mapDictKeys x.data _) hn (.new hn) (Heap.SameBut.update ..)
  · refine wpAny_bind (wpAny_dictEntries (s := { s' with toks := s'.toks + k.draws }) x.get x.data ?_)
    have hl : j < es.size := by rw [← x.ent.len]; exact (List.getElem?_eq_some_iff.mp hj).1
    have qe : es[j]? = some es[j] := Array.getElem?_eq_getElem hl
    rw [qe]
    exact wpAny_bind (wpAny_rule (wpAny_pure (wpAny_pure ⟨_, rfl, q1 j _ hj qe⟩)))
end
end
end MP
set_option Elab.async false
set_option linter.all false
set_option maxRecDepth 100000
set_option maxHeartbeats 4000000
/-! MPH: dicts as values and as changeable objects. -/
namespace MP
open PySem PySem.Spec PyProof.Rows L2
def eqL (f : D → D → Bool) : List D → List D → Bool
  | [], [] => true
  | a :: as, b :: bs => f a b && eqL f as bs
  | _, _ => false
def eqLeaf (t : List D → List D → Bool) (a b : D) : Bool := match a with
  | .non => (match b with
    | .non => true
    | _ => false)
  | .bl x => (match b with
    | .bl y => decide (x = y)
    | .int j => decide ((if x = true then (1 : Int) else 0) = j)
    | _ => false)
  | .int i => (match b with
    | .int j => decide (i = j)
    | .bl y => decide (i = (if y = true then (1 : Int) else 0))
    | _ => false)
  | .str x => (match b with
    | .str y => decide (x = y)
    | _ => false)
  | .tup xs => (match b with
    | .tup ys => t xs ys
    | _ => false)
  | _ => false
/-- two keys are one -/
def eqK : Nat → D → D → Bool
  | 0, a, b => eqLeaf (fun _ _ => false) a b
  | n + 1, a, b => eqLeaf (eqL (eqK n)) a b
theorem eqL_iff {f : D → D → Bool} {g : D → Option NestedKey} (ih : ∀ a b ka kb, g a = some ka → g b = some kb → f a b = decide (ka = kb)) : ∀ {as bs : List D} {ks ls : List NestedKey}, allK g as = some ks → allK g bs = some ls → eqL f as bs = decide (ks = ls)
  | [], [], _, _, h1, h2 => by cases h1; cases h2; rfl
  | [], b :: bs, _, ls, h1, h2 => by
    cases h1
    unfold allK at h2
    cases e1 : g b with
    | none => rw [e1] at h2; cases h2
    | some k =>
      cases e2 : allK g bs with
      | none => simp only [e1, e2] at h2; cases h2
      | some ks => simp only [e1, e2] at h2; cases h2; rfl
  | a :: as, [], ks, _, h1, h2 => by
    cases h2
    unfold allK at h1
    cases e1 : g a with
    | none => rw [e1] at h1; cases h1
    | some k =>
      cases e2 : allK g as with
      | none => simp only [e1, e2] at h1; cases h1
      | some ks => simp only [e1, e2] at h1; cases h1; rfl
  | a :: as, b :: bs, ks, ls, h1, h2 => by
    unfold allK at h1 h2
    cases e1 : g a with
    | none => rw [e1] at h1; cases h1
    | some k =>
      cases e2 : allK g as with
      | none => simp only [e1, e2] at h1; cases h1
      | some ks =>
        simp only [e1, e2] at h1
        cases h1
        cases e3 : g b with
        | none => rw [e3] at h2; cases h2
        | some l =>
          cases e4 : allK g bs with
          | none => simp only [e3, e4] at h2; cases h2
          | some ls =>
            simp only [e3, e4] at h2
            cases h2
            rw [eqL, ih a b k l e1 e3, eqL_iff ih e2 e4]
            by_cases p : k = l <;> by_cases q : ks = ls <;> simp [p, q]
theorem eqK_iff : ∀ (n : Nat) (a b : D) (ka kb : NestedKey), keyN n a = some ka → keyN n b = some kb → eqK n a b = decide (ka = kb)
  | 0, a, b, ka, kb, h1, h2 => by
    cases a <;> simp [keyN] at h1 <;> subst h1 <;> cases b <;> simp [keyN] at h2 <;> subst h2 <;> simp [eqK, eqLeaf]
    · rename_i x y; cases x <;> cases y <;> decide
  | n + 1, a, b, ka, kb, h1, h2 => by
    cases a with
    | tup xs =>
      simp only [keyN] at h1
      cases e1 : allK (keyN n) xs with
      | none => rw [e1] at h1; cases h1
      | some ks =>
        rw [e1] at h1
        cases h1
        cases b with
        | tup ys =>
          simp only [keyN] at h2
          cases e2 : allK (keyN n) ys with
          | none => rw [e2] at h2; cases h2
          | some ls =>
            rw [e2] at h2
            cases h2
            show eqL (eqK n) xs ys = _
            rw [eqL_iff (eqK_iff n) e1 e2]
            by_cases q : ks = ls <;> simp [q]
        | _ => simp [keyN] at h2 <;> subst h2 <;> simp [eqK, eqLeaf]
    | lst _ => simp [keyN] at h1
    | dct _ => simp [keyN] at h1
    | obj _ _ => simp [keyN] at h1
    | ref _ => simp [keyN] at h1
    | scr _ => simp [keyN] at h1
    | _ =>
      simp [keyN] at h1
      subst h1
      cases b with
      | tup ys =>
        simp only [keyN] at h2
        cases e2 : allK (keyN n) ys with
        | none => rw [e2] at h2; cases h2
        | some ls => rw [e2] at h2; cases h2; simp [eqK, eqLeaf]
      | _ => simp [keyN] at h2 <;> subst h2 <;> simp [eqK, eqLeaf] <;> (rename_i x y; cases x <;> cases y <;> decide)
theorem allK_depth {g : D → Option NestedKey} {n : Nat} (ih : ∀ d k, g d = some k → k.depth ≤ n) : ∀ {ds : List D} {ks : List NestedKey}, allK g ds = some ks → NestedKey.depthAll ks ≤ n
  | [], _, h => by cases h; exact Nat.zero_le _
  | d :: ds, ks, h => by
    unfold allK at h
    cases e1 : g d with
    | none => rw [e1] at h; cases h
    | some k =>
      cases e2 : allK g ds with
      | none => simp only [e1, e2] at h; cases h
      | some ls =>
        simp only [e1, e2] at h
        cases h
        rw [NestedKey.depthAll]
        exact Nat.max_le.mpr ⟨ih d k e1, allK_depth ih e2⟩
theorem keyN_depth : ∀ {n : Nat} {d : D} {k : NestedKey}, keyN n d = some k → k.depth ≤ n
  | 0, d, k, h => by cases d <;> simp [keyN] at h <;> subst h <;> simp [NestedKey.depth]
  | n + 1, d, k, h => by
    cases d with
    | tup xs =>
      simp only [keyN] at h
      cases e1 : allK (keyN n) xs with
      | none => rw [e1] at h; cases h
      | some ks =>
        rw [e1] at h
        cases h
        rw [NestedKey.depth]
        exact Nat.succ_le_succ (allK_depth (fun d k q => keyN_depth q) e1)
    | _ => simp [keyN] at h <;> subst h <;> simp [NestedKey.depth]
def lookK (kd : D) : List (D × D) → Option D
  | [] => none
  | (a, v) :: r => match eqK 8 a kd with
    | true => some v
    | false => lookK kd r
def putK (kd v : D) : List (D × D) → List (D × D)
  | [] => [(kd, v)]
  | (a, x) :: r => match eqK 8 a kd with
    | true => (a, v) :: r
    | false => (a, x) :: putK kd v r

section
variable {X : Cx} {Γ : Gm} {W : WX} {pins : List (Addr × Obj)} {σ : L2.St} {H : Hp} {s : Shared} {n : Nat} {ρ : Rho} {h : AH}
theorem nisAll {g : D → Option NestedKey} (ih : ∀ (d : D) (k : NestedKey) (v : V) (u : Value), g d = some k → RD0 X Γ n ρ H d v → RelV v u → NestedIs s.heap k u) : ∀ {ds : List D} {ks : List NestedKey} {vs : List V} {us : List Value}, allK g ds = some ks → RDs0 X Γ n ρ H ds vs → Vals vs us → NestedAll s.heap ks us
  | [], _, _, _, e, .nil, .nil => by cases e; exact .nil
  | d :: ds, ks, _, _, e, .cons r t, .cons rv tv => by
    unfold allK at e
    cases e1 : g d with
    | none => rw [e1] at e; cases e
    | some k =>
      cases e2 : allK g ds with
      | none => simp only [e1, e2] at e; cases e
      | some ls =>
        simp only [e1, e2] at e
        cases e
        exact .cons (ih d k _ _ e1 r rv) (nisAll ih e2 t tv)
theorem nis (I : Inv X pins σ H s) : ∀ (m : Nat) (d : D) (k : NestedKey) (v : V) (u : Value), keyN m d = some k → RD0 X Γ n ρ H d v → RelV v u → NestedIs s.heap k u
  | 0, d, k, v, u, e, r, rv => by
    cases r <;> simp [keyN] at e <;> subst e
    · cases rv; exact .none
    · cases rv; exact .bool rfl
    · obtain ⟨t, rfl⟩ := rv; exact .int _ t
    · obtain ⟨t, rfl⟩ := rv; exact .text _ t
  | m + 1, d, k, v, u, e, r, rv => by
    cases d with
    | tup xs =>
      simp only [keyN] at e
      cases e1 : allK (keyN m) xs with
      | none => rw [e1] at e; cases e
      | some ks =>
        rw [e1] at e
        cases e
        obtain ⟨a, vs, rfl, hs, rs⟩ := RelD.tup_seq r
        cases rv
        obtain ⟨its, rv, ⟨o, ho, hc, z, hd⟩, _⟩ := I.tuple hs
        exact .tup ho hc hd (nisAll (nis I m) e1 rs rv)
    | non => simp [keyN] at e; subst e; cases r; cases rv; exact .none
    | bl b => simp [keyN] at e; subst e; cases r; cases rv; exact .bool rfl
    | int i => simp [keyN] at e; subst e; cases r; obtain ⟨t, rfl⟩ := rv; exact .int _ t
    | str x => simp [keyN] at e; subst e; cases r; obtain ⟨t, rfl⟩ := rv; exact .text _ t
    | _ => simp [keyN] at e
theorem RelKs.length : ∀ {kvs : List (D × D)} {es : List DictEntry}, RelKs X.w X.K Γ n ρ H kvs es → kvs.length = es.length
  | _, _, .nil => rfl
  | _, _, .cons _ _ _ _ _ _ t => congrArg Nat.succ (RelKs.length t)
/-- the keys of a dict -/
def keysR (kvs : List (D × D)) (ks : List NestedKey) : Prop := kvs.map (fun p => keyOf p.1) = ks.map some
theorem RelKs.keys : ∀ {kvs : List (D × D)} {es : List DictEntry}, RelKs X.w X.K Γ n ρ H kvs es → ∃ ks, keysR kvs ks
  | _, _, .nil => ⟨[], rfl⟩
  | _, _, .cons (k := k) _ _ e _ _ _ t => by
    obtain ⟨ks, h⟩ := RelKs.keys t
    refine ⟨k :: ks, ?_⟩
    unfold keysR at h ⊢
    rw [List.map_cons, List.map_cons, h]
    exact congrArg (· :: ks.map some) e
theorem RelKs.at_ : ∀ {kvs : List (D × D)} {es : List DictEntry} {i : Nat} {kd vd : D}, RelKs X.w X.K Γ n ρ H kvs es → kvs[i]? = some (kd, vd) → ∃ kv vv k e, es[i]? = some e ∧ RD0 X Γ n ρ H kd kv ∧ RelV kv e.key ∧ keyOf kd = some k ∧ e.hash = k.hash X.w ∧ RD0 X Γ n ρ H vd vv ∧ RelV vv e.val
  | _, _, _, _, _, .nil, e => by simp at e
  | _, _, 0, _, _, .cons a b c d e f t, q => by
    simp at q
    obtain ⟨rfl, rfl⟩ := q
    exact ⟨_, _, _, _, rfl, a, b, c, d, e, f⟩
  | _, _, i + 1, _, _, .cons a b c d e f t, q => by
    obtain ⟨kv, vv, k, e, h1, h2⟩ := RelKs.at_ (i := i) t (by simpa using q)
    exact ⟨kv, vv, k, e, by simpa using h1, h2⟩
theorem keysR.at_ {kvs : List (D × D)} {ks : List NestedKey} (q : keysR kvs ks) {i : Nat} {k : NestedKey} (e : ks[i]? = some k) : ∃ kd vd, kvs[i]? = some (kd, vd) ∧ keyOf kd = some k := by
  have h1 : (kvs.map (fun p => keyOf p.1))[i]? = some (some k) := by rw [show kvs.map (fun p => keyOf p.1) = ks.map some from q, List.getElem?_map, e]; rfl
  rw [List.getElem?_map] at h1
  cases e2 : kvs[i]? with
  | none => rw [e2] at h1; cases h1
  | some p => rw [e2] at h1; exact ⟨p.1, p.2, rfl, Option.some.inj h1⟩
theorem keysR.key {kvs : List (D × D)} {ks : List NestedKey} (q : keysR kvs ks) {i : Nat} {kd vd : D} (e : kvs[i]? = some (kd, vd)) : ∃ k, ks[i]? = some k ∧ keyOf kd = some k := by
  have h1 : (ks.map some)[i]? = some (keyOf kd) := by rw [← show kvs.map (fun p => keyOf p.1) = ks.map some from q, List.getElem?_map, e]; rfl
  rw [List.getElem?_map] at h1
  cases e2 : ks[i]? with
  | none => rw [e2] at h1; cases h1
  | some k => rw [e2] at h1; exact ⟨k, rfl, (Option.some.inj h1).symm⟩
theorem keysR.nd {kvs : List (D × D)} {ks : List NestedKey} (q : keysR kvs ks) (nd : KNd kvs) : ks.Nodup := by
  unfold KNd at nd
  rw [show kvs.map (fun p => keyOf p.1) = ks.map some from q] at nd
  exact (List.pairwise_map.mp nd).imp fun z e => z (congrArg some e)
theorem ent_of {kvs : List (D × D)} {es : Array DictEntry} {ks : List NestedKey} (I : Inv X pins σ H s) (r : RelKs X.w X.K Γ n ρ H kvs es.toList) (q : keysR kvs ks) (nd : KNd kvs) : Ent X.w s.heap ks es := by
  have hl : ks.length = kvs.length := by
    have := congrArg List.length (show kvs.map (fun p => keyOf p.1) = ks.map some from q)
    rw [List.length_map, List.length_map] at this
    exact this.symm
  refine ⟨by rw [hl, r.length, Array.length_toList], fun i e k h1 h2 => ?_, q.nd nd⟩
  obtain ⟨kd, vd, h3, h4⟩ := q.at_ h2
  obtain ⟨kv, vv, k', e', g1, g2, g3, g4, g5, g6, g7⟩ := r.at_ h3
  rw [Array.getElem?_toList, h1] at g1
  cases g1
  rw [h4] at g4
  cases g4
  exact ⟨nis I 8 kd k kv e.key h4 g2 g3, keyN_depth h4, g5⟩
/-- what is found -/
theorem lookK_none {kvs : List (D × D)} {ks : List NestedKey} {kd : D} {k : NestedKey} (q : keysR kvs ks) (hk : keyOf kd = some k) (hn : ∀ j : Nat, ks[j]? ≠ some k) : lookK kd kvs = none := by
  induction kvs generalizing ks with
  | nil => rfl
  | cons p kvs ih =>
    obtain ⟨a, v⟩ := p
    cases ks with
    | nil => cases q
    | cons l ks =>
      unfold keysR at q
      rw [List.map_cons, List.map_cons] at q
      injection q with q1 q2
      have e : eqK 8 a kd = false := by
        rw [eqK_iff 8 a kd l k q1 hk]
        exact decide_eq_false fun z => hn 0 (by rw [z]; rfl)
      rw [lookK, e]
      exact ih (ks := ks) q2 fun j => hn (j + 1)
theorem lookK_some {kvs : List (D × D)} {ks : List NestedKey} {kd a v : D} {k : NestedKey} {j : Nat} (q : keysR kvs ks) (nd : ks.Nodup) (hk : keyOf kd = some k) (hj : ks[j]? = some k) (hv : kvs[j]? = some (a, v)) : lookK kd kvs = some v := by
  induction kvs generalizing ks j with
  | nil => simp at hv
  | cons p kvs ih =>
    obtain ⟨b, u⟩ := p
    cases ks with
    | nil => cases q
    | cons l ks =>
      unfold keysR at q
      rw [List.map_cons, List.map_cons] at q
      injection q with q1 q2
      have nd2 := List.nodup_cons.mp nd
      have e := eqK_iff 8 b kd l k q1 hk
      cases j with
      | zero =>
        simp at hj hv
        rw [lookK, e, decide_eq_true hj]
        rw [hv.2]
      | succ j =>
        have hj' : ks[j]? = some k := by simpa using hj
        have hne : l ≠ k := fun z => nd2.1 (by rw [z]; exact List.mem_of_getElem? hj')
        rw [lookK, e, decide_eq_false hne]
        exact ih q2 nd2.2 hj' (by simpa using hv)
theorem putK_new {kvs : List (D × D)} {ks : List NestedKey} {kd v : D} {k : NestedKey} (q : keysR kvs ks) (hk : keyOf kd = some k) (hn : ∀ j : Nat, ks[j]? ≠ some k) : putK kd v kvs = kvs ++ [(kd, v)] := by
  induction kvs generalizing ks with
  | nil => rfl
  | cons p kvs ih =>
    obtain ⟨a, u⟩ := p
    cases ks with
    | nil => cases q
    | cons l ks =>
      unfold keysR at q
      rw [List.map_cons, List.map_cons] at q
      injection q with q1 q2
      have e : eqK 8 a kd = false := by
        rw [eqK_iff 8 a kd l k q1 hk]
        exact decide_eq_false fun z => hn 0 (by rw [z]; rfl)
      rw [putK, e]
      show (a, u) :: putK kd v kvs = _
      rw [ih (ks := ks) q2 fun j => hn (j + 1)] <;> rfl
theorem putK_old {kvs : List (D × D)} {ks : List NestedKey} {kd a u v : D} {k : NestedKey} {j : Nat} (q : keysR kvs ks) (nd : ks.Nodup) (hk : keyOf kd = some k) (hj : ks[j]? = some k) (hv : kvs[j]? = some (a, u)) : putK kd v kvs = kvs.set j (a, v) := by
  induction kvs generalizing ks j with
  | nil => simp at hv
  | cons p kvs ih =>
    obtain ⟨b, x⟩ := p
    cases ks with
    | nil => cases q
    | cons l ks =>
      unfold keysR at q
      rw [List.map_cons, List.map_cons] at q
      injection q with q1 q2
      have nd2 := List.nodup_cons.mp nd
      have e := eqK_iff 8 b kd l k q1 hk
      cases j with
      | zero =>
        simp at hj hv
        rw [putK, e, decide_eq_true hj, hv.1]
        rfl
      | succ j =>
        have hj' : ks[j]? = some k := by simpa using hj
        have hne : l ≠ k := fun z => nd2.1 (by rw [z]; exact List.mem_of_getElem? hj')
        rw [putK, e, decide_eq_false hne]
        show (b, x) :: putK kd v kvs = _
        rw [ih q2 nd2.2 hj' (by simpa using hv)]
        rfl
theorem RelKs.append : ∀ {kvs : List (D × D)} {es : List DictEntry} {kvs' : List (D × D)} {es' : List DictEntry}, RelKs X.w X.K Γ n ρ H kvs es → RelKs X.w X.K Γ n ρ H kvs' es' → RelKs X.w X.K Γ n ρ H (kvs ++ kvs') (es ++ es')
  | _, _, _, _, .nil, t => t
  | _, _, _, _, .cons a b c d e f t, u => .cons a b c d e f (RelKs.append t u)
theorem RelKs.modify {vd : D} {vv : V} {u : Value} (r1 : RD0 X Γ n ρ H vd vv) (r2 : RelV vv u) : ∀ {kvs : List (D × D)} {es : List DictEntry} {j : Nat} {a x : D}, RelKs X.w X.K Γ n ρ H kvs es → kvs[j]? = some (a, x) → RelKs X.w X.K Γ n ρ H (kvs.set j (a, vd)) (es.modify j fun e => { e with val := u })
  | _, _, _, _, _, .nil, e => by simp at e
  | _, _, 0, _, _, .cons a b c d e f t, q => by
    simp at q
    obtain ⟨rfl, rfl⟩ := q
    exact .cons a b c d r1 r2 t
  | _, _, j + 1, _, _, .cons a b c d e f t, q => .cons a b c d e f (RelKs.modify r1 r2 t (by simpa using q))
/-- storing, the dict's relation -/
theorem put_rel {kvs : List (D × D)} {es es' : Array DictEntry} {ks : List NestedKey} {kd vd : D} {kv vv : V} {k : NestedKey} {key u : Value} (r : RelKs X.w X.K Γ n ρ H kvs es.toList) (q : keysR kvs ks) (nd : KNd kvs) (hk : keyOf kd = some k) (rk : RD0 X Γ n ρ H kd kv) (rkv : RelV kv key)
    (r1 : RD0 X Γ n ρ H vd vv) (r2 : RelV vv u) (p : Put X.w ks k es key u es') : RelKs X.w X.K Γ n ρ H (putK kd vd kvs) es'.toList ∧ KNd (putK kd vd kvs) := by
  cases p with
  | new hn =>
    rw [putK_new q hk hn]
    refine ⟨?_, ?_⟩
    · rw [Array.toList_push]
      exact r.append (.cons rk rkv hk rfl r1 r2 .nil)
    · unfold KNd at nd ⊢
      rw [List.map_append, List.nodup_append]
      refine ⟨nd, by simp, fun x hx y hy => ?_⟩
      rw [show kvs.map (fun p => keyOf p.1) = ks.map some from q] at hx
      obtain ⟨l, hl, rfl⟩ := List.mem_map.mp hx
      have hy : y = keyOf kd := by simpa using hy
      rw [hy, hk]
      intro z
      obtain ⟨j, hj⟩ := List.mem_iff_getElem?.mp hl
      exact hn j (by rw [hj]; exact z)
  | @old j hj =>
    obtain ⟨a, x, h1, h2⟩ := q.at_ hj
    rw [putK_old q (q.nd nd) hk hj h1]
    refine ⟨?_, ?_⟩
    · rw [Array.toList_modify]
      exact r.modify r1 r2 h1
    · unfold KNd at nd ⊢
      rw [List.map_set]
      have e : (kvs.map fun p => keyOf p.1).set j (keyOf a) = kvs.map fun p => keyOf p.1 := by
        have hl : j < (kvs.map fun p => keyOf p.1).length := by rw [List.length_map]; exact (List.getElem?_eq_some_iff.mp h1).1
        have e2 : (kvs.map fun p => keyOf p.1)[j] = keyOf a := by
          have := List.getElem?_eq_getElem hl
          rw [List.getElem?_map, h1] at this
          exact (Option.some.inj this).symm
        rw [← e2]
        exact List.set_getElem_self hl
      show ((kvs.map fun p => keyOf p.1).set j (keyOf a)).Nodup
      rw [e]
      exact nd
end
end MP
set_option Elab.async false
set_option linter.all false
set_option maxRecDepth 100000
set_option maxHeartbeats 4000000
/-! MPI: what is done with dicts; methods of lists and dicts. -/
namespace MP
open PySem PySem.Spec PyProof.Rows L2
section
variable {X : Cx} {Γ : Gm} {W : WX} {pins : List (Addr × Obj)} {σ : L2.St} {H : Hp} {s : Shared} {n : Nat} {ρ : Rho} {h : AH}
/-- a dict's entries -/
def dcV (h : AH) (d : D) : Option (List (D × D)) := match d with
  | .dct kvs => some kvs
  | .ref i => match h[i]? with
    | some (.dct kvs) => some kvs
    | some (.fz (.dct kvs)) => some kvs
    | _ => none
  | _ => none
/-- the dict as it lies -/
structure DAt (X : Cx) (Γ : Gm) (n : Nat) (ρ : Rho) (H : Hp) (hp : Heap) (a : Addr) (o : Obj) (es : Array DictEntry) (ep : Nat) (kvs : List (D × D)) : Prop where
  get : hp.get? a = some o
  ex : o.ExactDict
  dat : o.data = .dict es ep
  sys : (a == sysModules) = false
  nd : KNd kvs
  rel : RelKs X.w X.K Γ n ρ H kvs es.toList
theorem hd_get {a : Addr} {o : Obj} (I : Inv X pins σ H s) (e : H a = some (HD a o)) : s.heap.get? a = some o := by
  obtain ⟨z, _⟩ := I.hok a _ e
  exact z
theorem RelD.dct_at {m : Nat} {kvs : List (D × D)} {v : V} (I : Inv X pins σ H s) (r : RelD X.w X.K Γ n ρ H m (.dct kvs) v) : ∃ a o es ep, v = .ref a ∧ DAt X Γ n ρ H s.heap a o es ep kvs := by
  cases r with
  | dct e f a b c nd r => exact ⟨_, _, _, _, rfl, hd_get I e, a, b, c, nd, r⟩
  | dctK e a b c nd r => exact ⟨_, _, _, _, rfl, I.kIn _ _ e, a, b, c, nd, r⟩
theorem dcV_at {d : D} {kvs : List (D × D)} {v : V} (I : Inv X pins σ H s) (hr : HR X Γ n ρ H h) (r : RD X Γ n ρ H d v) (e : dcV h d = some kvs) : ∃ a o es ep, v = .ref a ∧ DAt X Γ n ρ H s.heap a o es ep kvs := by
  cases d with
  | dct ks => simp only [dcV] at e; cases e; exact r.dct_at I
  | ref i =>
    simp only [dcV] at e
    cases r with
    | ref hi =>
      cases q : h[i]? with
      | none => rw [q] at e; cases e
      | some o =>
        rw [q] at e
        have z := hr.at_ i o q
        cases o with
        | dct ks => cases e; obtain ⟨_, o, es, ep, h1, h2, h3, h4, h5, h6⟩ := z; exact ⟨_, o, es, ep, rfl, hd_get I h1, h2, h3, h4, h5, h6⟩
        | fz d =>
          cases d with
          | dct ks => cases e; exact z.2.2.dct_at I
          | _ => cases e
        | _ => cases e
  | _ => simp only [dcV] at e; cases e
theorem DAt.is {a : Addr} {o : Obj} {es : Array DictEntry} {ep : Nat} {kvs : List (D × D)} (x : DAt X Γ n ρ H s.heap a o es ep kvs) (I : Inv X pins σ H s) : ∃ ks, keysR kvs ks ∧ DictIs X.w s.heap a o ks es ep := by
  obtain ⟨ks, q⟩ := x.rel.keys
  exact ⟨ks, q, x.get, x.ex, x.dat, ent_of I x.rel q x.nd⟩
/-- what a lookup gives, as values -/
theorem DAt.hit {a : Addr} {o : Obj} {es : Array DictEntry} {ep : Nat} {kvs : List (D × D)} {ks : List NestedKey} {kd : D} {k : NestedKey} {r : Option Value} (x : DAt X Γ n ρ H s.heap a o es ep kvs) (q : keysR kvs ks) (hk : keyOf kd = some k) (hr : Hit ks k es r) :
    (r = none ∧ lookK kd kvs = none) ∨ ∃ u vd vv, r = some u ∧ lookK kd kvs = some vd ∧ RD0 X Γ n ρ H vd vv ∧ RelV vv u := by
  cases hr with
  | no hn => exact .inl ⟨rfl, lookK_none q hk hn⟩
  | yes hj he =>
    obtain ⟨b, v, h1, h2⟩ := q.at_ hj
    obtain ⟨kv, vv, k', e', g1, g2, g3, g4, g5, g6, g7⟩ := x.rel.at_ h1
    rw [Array.getElem?_toList, he] at g1
    cases g1
    exact .inr ⟨_, v, vv, rfl, lookK_some q (q.nd x.nd) hk hj h1, g6, g7⟩
theorem key_val {kd : D} {k : NestedKey} (hk : keyOf kd = some k) : isV kd = true := by
  cases kd <;> first | rfl | simp [keyOf, keyN] at hk
/-- in, not in: a tuple, a list, a dict -/
def inAny (h : AH) (a b : D) : Option Bool := match dcV h b with
  | some kvs => match keyOf a with
    | some _ => some (lookK a kvs).isSome
    | none => none
  | none => inSeq h a b
def opIn : D → D → AH → Option (D × AH) := fun a b h => opB (inAny h a b) h
def opNotIn : D → D → AH → Option (D × AH) := fun a b h => opB ((inAny h a b).map (!·)) h
theorem inDict_ok {a b : D} {x y : V} {v u : Value} {Q : VK} {kvs : List (D × D)} {k : NestedKey} (hu : X.A.units + 64 < cLine) (I : Inv X pins σ H s) (rx : RelV x v) (ry : RelV y u) (hr : HR X Γ n ρ H h) (ra : RD X Γ n ρ H a x) (rb : RD X Γ n ρ H b y)
    (e : dcV h b = some kvs) (hk : keyOf a = some k) : (Q (.bl (lookK a kvs).isSome) H → wpAny (model X.prog X.w) X.A (compareOp .In v u) (EP X pins σ Q) X.xe s) ∧ (Q (.bl (!(lookK a kvs).isSome)) H → wpAny (model X.prog X.w) X.A (compareOp .NotIn v u) (EP X pins σ Q) X.xe s) := by
  obtain ⟨d, o, es, ep, rfl, da⟩ := dcV_at I hr rb e
  cases ry
  obtain ⟨ks, q, di⟩ := da.is I
  have ni := nis I 8 a k x v hk (ra.down (key_val hk)) rx
  have dp := keyN_depth hk
  refine ⟨fun qq => in_key (by omega) da.sys ni dp di fun r hr => ?_, fun qq => notIn_key (by omega) da.sys ni dp di fun r hr => ?_⟩
  · refine ⟨.bl r.isSome, H, I.tok _, rfl, ?_⟩
    rcases da.hit q hk hr with ⟨e1, e2⟩ | ⟨u, vd, vv, e1, e2, _⟩
    · rw [e2] at qq; rw [e1]; exact qq
    · rw [e2] at qq; rw [e1]; exact qq
  · refine ⟨.bl (!r.isSome), H, I.tok _, rfl, ?_⟩
    rcases da.hit q hk hr with ⟨e1, e2⟩ | ⟨u, vd, vv, e1, e2, _⟩
    · rw [e2] at qq; rw [e1]; exact qq
    · rw [e2] at qq; rw [e1]; exact qq
theorem in_ok (hu : X.A.units + 64 < cLine) : OpR X (compareOp .In) (rD X Γ opIn) := by
  intro pins s σ H x y v u Q I rx ry ⟨h, n, ρ, a, b, hr, ra, rb, q⟩
  unfold opIn inAny at q
  cases e : dcV h b with
  | some kvs =>
    rw [e] at q
    cases hk : keyOf a with
    | none => rw [hk] at q; exact q.elim
    | some k =>
      rw [hk] at q
      exact (inDict_ok hu I rx ry hr ra rb e hk).1 (q _ n ρ H Ext.refl hr (.bl _))
  | none =>
    rw [e] at q
    simp only at q
    cases e2 : inSeq h a b with
    | none => rw [e2] at q; exact q.elim
    | some r =>
      rw [e2] at q
      exact (inSeq_ok (neg := false) hu I rx ry hr ra rb e2).1 (q _ n ρ H Ext.refl hr (.bl _))
theorem notin_ok (hu : X.A.units + 64 < cLine) : OpR X (compareOp .NotIn) (rD X Γ opNotIn) := by
  intro pins s σ H x y v u Q I rx ry ⟨h, n, ρ, a, b, hr, ra, rb, q⟩
  unfold opNotIn inAny at q
  cases e : dcV h b with
  | some kvs =>
    rw [e] at q
    cases hk : keyOf a with
    | none => rw [hk] at q; exact q.elim
    | some k =>
      rw [hk] at q
      exact (inDict_ok hu I rx ry hr ra rb e hk).2 (q _ n ρ H Ext.refl hr (.bl _))
  | none =>
    rw [e] at q
    simp only at q
    cases e2 : inSeq h a b with
    | none => rw [e2] at q; exact q.elim
    | some r =>
      rw [e2] at q
      exact (inSeq_ok (neg := false) hu I rx ry hr ra rb e2).2 (q _ n ρ H Ext.refl hr (.bl _))
/-- d[k] of a dict, of a sequence -/
def ixAny : D → D → AH → Option (D × AH) := fun a b h => match dcV h a with
  | some kvs => match keyOf b with
    | some _ => match lookK b kvs with
      | some v => some (v, h)
      | none => none
    | none => none
  | none => ixD a b h
theorem ixAny_ok (hu : X.A.units + 64 < cLine) : IxR X (rD X Γ ixAny) := by
  intro value slice pins s σ H x y v u Q I rx ry ⟨h, n, ρ, a, b, hr, ra, rb, q⟩ hs
  unfold ixAny at q
  cases e : dcV h a with
  | none =>
    rw [e] at q
    exact ix_ok value slice pins s σ H x y v u Q I rx ry ⟨h, n, ρ, a, b, hr, ra, rb, q⟩ hs
  | some kvs =>
    cases hk : keyOf b with
    | none => simp only [e, hk] at q; exact q.elim
    | some k =>
      cases hl : lookK b kvs with
      | none => simp only [e, hk, hl] at q; exact q.elim
      | some vd =>
        simp only [e, hk, hl] at q
        obtain ⟨d, o, es, ep, rfl, da⟩ := dcV_at I hr ra e
        cases rx
        obtain ⟨ks, qk, di⟩ := da.is I
        have ni := nis I 8 b k y u hk (rb.down (key_val hk)) ry
        have dp := keyN_depth hk
        refine tail_any di.typeIs slot_dict_getitem.lookup ?_ hs
        by_cases hj : ∃ j : Nat, ks[j]? = some k
        · obtain ⟨j, hj⟩ := hj
          refine getItem_key (by omega) ni dp di hj fun ent he => ?_
          rcases da.hit qk hk (.yes hj he) with ⟨_, e2⟩ | ⟨u', vd', vv, e1, e2, r1, r2⟩
          · rw [hl] at e2; cases e2
          · rw [hl] at e2
            cases e2
            cases e1
            exact ⟨vv, H, I.tok _, r2, q _ n ρ H Ext.refl hr r1.up⟩
        · rcases da.hit qk hk (.no fun j z => hj ⟨j, z⟩) with ⟨_, e2⟩ | ⟨u', vd', vv, e1, _⟩
          · rw [hl] at e2; cases e2
          · cases e1
/-- a dict is written: the new state -/
theorem dict_put {i : Nat} {kd vd : D} {k : NestedKey} {kv vv : V} {key u : Value} {kvs : List (D × D)} {o : Obj} {es : Array DictEntry} {ep : Nat} {ks : List NestedKey} (I : Inv X pins σ H s) (hr : HR X Γ n ρ H h) (hi : i < n) (q : h[i]? = some (.dct kvs)) (da : DAt X Γ n ρ H s.heap (ρ.to i) o es ep kvs) (qk : keysR kvs ks)
    (hk : keyOf kd = some k) (rk : RD0 X Γ n ρ H kd kv) (rkv : RelV kv key) (rv : RD0 X Γ n ρ H vd vv) (rvv : RelV vv u) {h' : Heap} {o' : Obj} {es' : Array DictEntry} {ep' t' : Nat} (g : h'.get? (ρ.to i) = some o') (ex : o'.ExactDict) (dt : o'.data = .dict es' ep') (p : Put X.w ks k es key u es') (sb : Heap.SameBut (ρ.to i) s.heap h') :
    Inv X pins σ (upd H (ρ.to i) (HD (ρ.to i) o')) { s with heap := h', toks := t' } ∧ Ext n ρ H n ρ (upd H (ρ.to i) (HD (ρ.to i) o')) ∧ HR X Γ n ρ (upd H (ρ.to i) (HD (ρ.to i) o')) (h.set i (.dct (putK kd vd kvs))) := by
  have z := hr.at_ i _ q
  have hz : ¬ ρ.fz i := z.1
  obtain ⟨_, o1, es1, ep1, h1, _⟩ := z
  have x := Ext.write (o := HD (ρ.to i) o') (H := H) hi hz (hr.nb i hi)
  obtain ⟨r1, r2⟩ := put_rel da.rel qk da.nd hk rk rkv rv rvv p
  refine ⟨I.write (x := ρ.to i) (e := ρ.to i) (by rw [h1]; exact trivial) (.inl rfl) (fun b w' hb hw => (sb.2 b hb).trans hw) ⟨o', g⟩ ⟨g, ⟨o', g⟩, fun h1 h2 a b => b _ a⟩, x, hr.write hi hz ⟨hz, o', es', ep', upd_same, ex, dt, da.sys, r2, r1.mono x⟩⟩
/-- d[k] = v -/
def putR (d k v : D) (h : AH) : Option AH := match d with
  | .ref i => match h[i]? with
    | some (.dct kvs) => match keyOf k with
      | some _ => if (decide (kvs.length ≤ sizeLine) && isV v) = true then some (h.set i (.dct (putK k v kvs))) else none
      | none => none
    | some (.lst xs) => match k with
      | .int j => match ixN xs.length j with
        | some a => if isV v = true then some (h.set i (.lst (xs.set a v))) else none
        | none => none
      | _ => none
    | _ => none
  | _ => none
def svPut (fv fo fi : Ev) : Sv := fun E h => bindE (fv E h) E fun v h1 => bindE (fo E h1) E fun d h2 => bindE (fi E h2) E fun k h3 => match putR d k v h3 with
  | some h4 => some (.next E, h4)
  | none => none
theorem putR_ok {d kd vd : D} {x y z : V} {v u w' : Value} {h' : AH} {Q : Hp → Prop} (hu : X.A.units + 64 < cLine) (I : Inv X pins σ H s) (rx : RelV x v) (ry : RelV y u) (rz : RelV z w') (hr : HR X Γ n ρ H h) (rd : RD X Γ n ρ H d x) (rk : RD X Γ n ρ H kd y) (rv : RD X Γ n ρ H vd z) (e : putR d kd vd h = some h')
    (q : ∀ H', Ext n ρ H n ρ H' → HR X Γ n ρ H' h' → Q H') : wpAny (model X.prog X.w) X.A (setItem v u w') (fun _ s' => ∃ H', Inv X pins σ H' s' ∧ Q H') X.xe s := by
  unfold putR at e
  cases d with
  | ref i =>
    simp only at e
    cases rd with
    | ref hi =>
      cases rx
      cases e1 : h[i]? with
      | none => rw [e1] at e; cases e
      | some ao =>
        rw [e1] at e
        have zz := hr.at_ i ao e1
        cases ao with
        | dct kvs =>
          cases hk : keyOf kd with
          | none => simp only [hk] at e; cases e
          | some k =>
            simp only [hk] at e
            by_cases hc : (decide (kvs.length ≤ sizeLine) && isV vd) = true
            · rw [if_pos hc] at e
              cases e
              obtain ⟨c1, c2⟩ := Bool.and_eq_true_iff.mp hc
              have da : ∃ o es ep, DAt X Γ n ρ H s.heap (ρ.to i) o es ep kvs := by
                obtain ⟨_, o, es, ep, g1, g2, g3, g4, g5, g6⟩ := zz
                exact ⟨o, es, ep, hd_get I g1, g2, g3, g4, g5, g6⟩
              obtain ⟨o, es, ep, da⟩ := da
              obtain ⟨ks, qk, di⟩ := da.is I
              have rk0 := rk.down (key_val hk)
              have ni := nis I 8 kd k y u hk rk0 ry
              refine setItem_key (by omega) ni (keyN_depth hk) di (by rw [← Array.length_toList, ← da.rel.length]; exact of_decide_eq_true c1) fun h' o' es' ep' g1 g2 g3 p sb => ?_
              obtain ⟨I2, x2, hr2⟩ := dict_put (t' := s.toks + k.draws) I hr hi e1 da qk hk rk0 ry (rv.down c2) rz g1 g2 g3 p sb
              exact ⟨_, I2, q _ x2 hr2⟩
            · rw [if_neg hc] at e; cases e
        | lst xs =>
          cases kd with
          | int j =>
            cases rk
            simp only at e
            cases e2 : ixN xs.length j with
            | none => rw [e2] at e; cases e
            | some a =>
              simp only [e2] at e
              by_cases hc : isV vd = true
              · rw [if_pos hc] at e
                cases e
                obtain ⟨hz, vs, g1, g2⟩ := zz
                obtain ⟨f1, f2, f3, f4⟩ := ixN_seq e2
                have x2 := Ext.write (o := .lst (vs.set a z)) (H := H) hi hz (hr.nb i hi)
                refine set_list pins s σ H (.ref (ρ.to i)) (.int j) z _ u w' (fun H' => Q H') I rfl ry rz ⟨ρ.to i, vs, j, a, rfl, rfl, g1, ?_, ?_⟩
                · rw [← g2.length]; exact e2
                · refine q _ x2 (hr.write hi hz ⟨hz, vs.set a z, upd_same, ?_⟩)
                  have set_rel : ∀ {ds : List D} {us : List V} (b : Nat), RDs0 X Γ n ρ H ds us → RDs0 X Γ n ρ H (ds.set b vd) (us.set b z) := by
                    intro ds us b r
                    induction b generalizing ds us with
                    | zero => cases r with
                      | nil => exact .nil
                      | cons r t => exact .cons (rv.down hc) t
                    | succ b ih => cases r with
                      | nil => exact .nil
                      | cons r t => exact .cons r (ih t)
                  exact (set_rel a g2).monoP x2
              · rw [if_neg hc] at e; cases e
          | _ => cases e
        | _ => cases e
  | _ => cases e
theorem ds_put {o i value : Expr} {pos pos' : Pos} {fv fo fi : Ev} (hu : X.A.units + 64 < cLine) (pv : DE X Γ W value fv) (po : DE X Γ W o fo) (pi : DE X Γ W i fi) (hs : swapsWith value (some (.Subscript o i pos')) pos.line X.env = pure false) :
    DS X Γ W (.Assign [.Subscript o i pos'] value pos) (svPut fv fo fi) := by
  refine ⟨fun pins s σ H Z I ⟨E, h, n, ρ, er, hr, q⟩ => ?_⟩
  refine wpAny_Assign_Subscript (thn (pv.run pins s σ H _ I ⟨E, h, n, ρ, er, hr, PostS.expr (R := RelT X.w X.K Γ) er q⟩) fun v s1 ⟨z, H1, I1, rz, vd, h1, n1, ρ1, x1, hr1, rv, q1⟩ => ?_) hs
  refine thn (po.run pins s1 σ H1 _ I1 ⟨E, h1, n1, ρ1, er.mono x1, hr1, PostS.expr (R := RelT X.w X.K Γ) (er.mono x1) q1⟩) fun ov s2 ⟨x, H2, I2, rx, dd, h2, n2, ρ2, x2, hr2, rd, q2⟩ => ?_
  refine thn (pi.run pins s2 σ H2 _ I2 ⟨E, h2, n2, ρ2, (er.mono x1).mono x2, hr2, PostS.expr (R := RelT X.w X.K Γ) ((er.mono x1).mono x2) q2⟩) fun iv s3 ⟨y, H3, I3, ry, kd, h3, n3, ρ3, x3, hr3, rk, q3⟩ => ?_
  cases e : putR dd kd vd h3 with
  | none => rw [e] at q3; exact q3.elim
  | some h4 =>
    rw [e] at q3
    refine wpAny_mono (putR_ok (Q := fun H' => Z.nx σ H') hu I3 rx ry rz hr3 (rd.mono x3) rk ((rv.mono x2).mono x3) e fun H' x4 hr4 => q3 σ n3 ρ3 H' x4 hr4 (((er.mono x1).mono x2).mono x3 |>.mono x4)) (fun _ s' ⟨H', I', qq⟩ => ⟨σ, H', I', qq⟩) fun _ _ z => z
end
end MP
set_option Elab.async false
set_option linter.all false
set_option maxRecDepth 100000
set_option maxHeartbeats 4000000
/-! MPJ: methods of lists, dicts. -/
namespace MP
open PySem PySem.Spec PyProof.Rows L2
inductive TyN where
  | list | dict | str
def TyN.nm : TyN → String
  | .list => "list"
  | .dict => "dict"
  | .str => "str"
def tyD (T : TyN) (h : AH) (d : D) : Bool := match T with
  | .list => (vwM h d).isSome
  | .dict => (dcV h d).isSome
  | .str => match d with
    | .str _ => true
    | _ => false
section
variable {X : Cx} {Γ : Gm} {W : WX} {pins : List (Addr × Obj)} {σ : L2.St} {H : Hp} {s : Shared} {n : Nat} {ρ : Rho} {h : AH}
theorem tyD_is {T : TyN} {d : D} {x : V} {v : Value} (I : Inv X pins σ H s) (hr : HR X Γ n ρ H h) (r : RD X Γ n ρ H d x) (rv : RelV x v) (e : tyD T h d = true) : s.TypeIs v T.nm ∧ ∀ a, v = .ref a → ∃ ob, s.heap.get? a = some ob ∧ ob.dict = none := by
  cases T with
  | list =>
    obtain ⟨xs, e⟩ := Option.isSome_iff_exists.mp (show (vwM h d).isSome = true from e)
    obtain ⟨a, vs, rfl, h1, _⟩ := vwM_at hr r e
    exact tyV_is I rv (.inl ⟨rfl, vs, .of h1⟩)
  | dict =>
    obtain ⟨kvs, e⟩ := Option.isSome_iff_exists.mp (show (dcV h d).isSome = true from e)
    obtain ⟨a, o, es, ep, rfl, da⟩ := dcV_at I hr r e
    cases rv
    exact ⟨⟨o, da.get, da.ex.1⟩, fun b z => by cases z; exact ⟨o, da.get, da.ex.2.1⟩⟩
  | str =>
    cases d with
    | str z => cases r; exact tyV_is I rv rfl
    | _ => cases e
/-- a method by values -/
def MtD (X : Cx) (Γ : Gm) (id : String) (φ : D → List D → AH → Option (D × AH)) : Prop :=
  ∀ (pins : List (Addr × Obj)) (s : Shared) (σ : L2.St) (H : Hp) (x : V) (xs : List V) (v : Value) (us : List Value) (Q : VK) (h : AH) (n : Nat) (ρ : Rho) (d : D) (ds : List D), Inv X pins σ H s → RelV x v → Vals xs us → HR X Γ n ρ H h → RD X Γ n ρ H d x → RDs X Γ n ρ H ds xs → PostO X Γ n ρ H (φ d ds h) Q →
    wpAny (model X.prog X.w) X.A (call (.builtin id) (v :: us)) (EP X pins σ Q) X.xe s
def evMt (T : TyN) (φ : D → List D → AH → Option (D × AH)) (fo : Ev) (ga : Env' → AH → Res (List D)) : Ev := fun E h => bindR (fo E h) fun d h1 => match tyD T h1 d with
  | true => bindR (ga E h1) fun ds h2 => opR (φ d ds h2)
  | false => none
theorem de_mt {T : TyN} {id : String} {name : Str} {o e : Expr} {es : List Expr} {apos cpos : Pos} {φ : D → List D → AH → Option (D × AH)} {fo : Ev} {ga : Env' → AH → Res (List D)} (pa : PlainAttrs T.nm) (slot : Slot T.nm name id) (hty : typeOf (.builtin id) = pure (.type "method_descriptor")) (hm : MtD X Γ id φ) (ho : DE X Γ W o fo) (ha : DA X Γ W (e :: es) ga)
    (hbase : attributeBase o name X.env (eval o X.env) = eval o X.env)
    (hfew : ((backTo cpos (starEach (e :: es) X.env)).all (fun x => !x.1) && (backToKw cpos (keywordEach [] X.env)).all (fun x => x.1.isSome) && decide ((e :: es).length + ([] : List Keyword).length + (if ([] : List Keyword).isEmpty then 0 else 1) < 30)) = true)
    (hline : (apos.endLine == cpos.line) = true) (hs : starEach (e :: es) X.env = (false, eval e X.env) :: starEach es X.env) (hplain : (backTo cpos (starEach es X.env)).any (·.1) = false) :
    DE X Γ W (.Call (.Attribute o name apos) (e :: es) [] cpos) (evMt T φ fo ga) := by
  refine ⟨fun pins s σ H Q I ⟨E, h, n, ρ, er, hr, q⟩ => ?_⟩
  refine wpAny_Call_method_late hbase hfew hline rfl (thn (ho.run pins s σ H _ I ⟨E, h, n, ρ, er, hr, Post.bind (R := RelT X.w X.K Γ) q⟩) fun v s1 ⟨x, H1, I1, r1, d, h1, n1, ρ1, x1, hr1, rd, q1⟩ => ?_)
  cases ht : tyD T h1 d with
  | false => rw [ht] at q1; exact q1.elim
  | true =>
    rw [ht] at q1
    obtain ⟨t1, t2⟩ := tyD_is I1 hr1 rd r1 ht
    refine ⟨T.nm, id, pa, slot, hty, t1, t2, ?_⟩
    have hA := ha.run cpos pins s1 σ H1 _ I1 ⟨E, h1, n1, ρ1, er.mono x1, hr1, Post.bind (R := RelTs X.w X.K Γ) q1⟩
    rw [hs] at hA ⊢
    refine Calls.callWith_builtin (by show (false || (backTo cpos (starEach es X.env)).any (·.1)) = false; rw [hplain] <;> rfl) (Calls.evalArgs_plain ?_)
    refine thn hA fun us s2 ⟨vs, H2, I2, r2, ds, h2, n2, ρ2, x2, hr2, rs, q2⟩ => hm pins s2 σ H2 x vs v us Q h2 n2 ρ2 d ds I2 r1 r2 hr2 (rd.mono x2) rs ?_
    cases ep : φ d ds h2 with
    | none => rw [ep] at q2; exact q2.elim
    | some p => obtain ⟨y, h3⟩ := p; rw [ep] at q2; exact q2
theorem de_mt0 {T : TyN} {id : String} {name : Str} {o : Expr} {apos cpos : Pos} {φ : D → List D → AH → Option (D × AH)} {fo : Ev} (pa : PlainAttrs T.nm) (slot : Slot T.nm name id) (hty : typeOf (.builtin id) = pure (.type "method_descriptor")) (hm : MtD X Γ id φ) (ho : DE X Γ W o fo)
    (hbase : attributeBase o name X.env (eval o X.env) = eval o X.env) (hline : (apos.endLine == cpos.line) = true) : DE X Γ W (.Call (.Attribute o name apos) [] [] cpos) (evMt T φ fo avNil) := by
  refine ⟨fun pins s σ H Q I ⟨E, h, n, ρ, er, hr, q⟩ => ?_⟩
  refine wpAny_Call_method0_late hbase hline (thn (ho.run pins s σ H _ I ⟨E, h, n, ρ, er, hr, Post.bind (R := RelT X.w X.K Γ) q⟩) fun v s1 ⟨x, H1, I1, r1, d, h1, n1, ρ1, x1, hr1, rd, q1⟩ => ?_)
  cases ht : tyD T h1 d with
  | false => rw [ht] at q1; exact q1.elim
  | true =>
    rw [ht] at q1
    obtain ⟨t1, t2⟩ := tyD_is I1 hr1 rd r1 ht
    refine ⟨T.nm, id, pa, slot, hty, t1, t2, Calls.callWith_builtin rfl (PySem.evalArgs_none (hm pins s1 σ H1 x [] v [] Q h1 n1 ρ1 d [] I1 r1 .nil hr1 rd .nil ?_))⟩
    have q1 : PostE X Γ n1 ρ1 H1 (fun c d H' => W c d σ H') (opR (φ d [] h1)) Q := q1
    cases ep : φ d [] h1 with
    | none => rw [ep] at q1; exact q1.elim
    | some p => obtain ⟨y, h3⟩ := p; rw [ep] at q1; exact q1
/-! ### lists -/
theorem lst_write {i : Nat} {xs ys : List D} {vs us : List V} (hr : HR X Γ n ρ H h) (hi : i < n) (e : h[i]? = some (.lst xs)) (r : RDs0 X Γ n ρ H ys us) : Ext n ρ H n ρ (upd H (ρ.to i) (.lst us)) ∧ HR X Γ n ρ (upd H (ρ.to i) (.lst us)) (h.set i (.lst ys)) := by
  have hz : ¬ ρ.fz i := (hr.at_ i _ e).1
  have x := Ext.write (o := .lst us) (H := H) hi hz (hr.nb i hi)
  exact ⟨x, hr.write hi hz ⟨hz, us, upd_same, r.monoP x⟩⟩
def appD : D → List D → AH → Option (D × AH) := fun d ds h => match d, ds with
  | .ref i, [y] => match h[i]? with
    | some (.lst xs) => if (decide (xs.length < sizeLine) && isV y) = true then some (.non, h.set i (.lst (xs ++ [y]))) else none
    | _ => none
  | _, _ => none
theorem mt_app : MtD X Γ "list.append" appD := by
  intro pins s σ H x xs v us Q h n ρ d ds I rx rs hr rd rds q
  match d, ds, rds, q with
  | .ref i, [y], .cons (v := yv) ry .nil, q =>
    simp only [appD] at q
    cases rd with
    | ref hi =>
      cases e : h[i]? with
      | none => rw [e] at q; exact q.elim
      | some o =>
        rw [e] at q
        cases o with
        | lst zs =>
          simp only at q
          by_cases hc : (decide (zs.length < sizeLine) && isV y) = true
          · rw [if_pos hc] at q
            obtain ⟨c1, c2⟩ := Bool.and_eq_true_iff.mp hc
            obtain ⟨_, vs, g1, g2⟩ := hr.at_ i _ e
            obtain ⟨x2, hr2⟩ := lst_write (vs := vs) hr hi e (g2.append (.cons (ry.down c2) .nil))
            exact mt_append pins s σ H _ _ v us Q I rx rs ⟨_, vs, yv, rfl, rfl, g1, by rw [← g2.length]; exact of_decide_eq_true c1, q _ n ρ _ x2 hr2 .non⟩
          · rw [if_neg hc] at q; exact q.elim
        | _ => exact q.elim
  | .ref i, [], _, q => exact q.elim
  | .ref i, _ :: _ :: _, _, q => exact q.elim
  | .non, _, _, q => exact q.elim
  | .bl _, _, _, q => exact q.elim
  | .int _, _, _, q => exact q.elim
  | .str _, _, _, q => exact q.elim
  | .tup _, _, _, q => exact q.elim
  | .lst _, _, _, q => exact q.elim
  | .dct _, _, _, q => exact q.elim
  | .obj _ _, _, _, q => exact q.elim
def extD : D → List D → AH → Option (D × AH) := fun d ds h => match d, ds with
  | .ref i, [y] => match h[i]? with
    | some (.lst xs) => match vwM h y with
      | some ys => if decide (xs.length + ys.length ≤ sizeLine) = true then some (.non, h.set i (.lst (xs ++ ys))) else none
      | none => none
    | _ => none
  | _, _ => none
theorem mt_ext : MtD X Γ "list.extend" extD := by
  intro pins s σ H x xs v us Q h n ρ d ds I rx rs hr rd rds q
  match d, ds, rds, q with
  | .ref i, [y], .cons (v := yv) ry .nil, q =>
    simp only [extD] at q
    cases rd with
    | ref hi =>
      cases e : h[i]? with
      | none => rw [e] at q; exact q.elim
      | some o =>
        rw [e] at q
        cases o with
        | lst zs =>
          simp only at q
          cases e2 : vwM h y with
          | none => rw [e2] at q; exact q.elim
          | some ys =>
            rw [e2] at q
            simp only at q
            by_cases hc : decide (zs.length + ys.length ≤ sizeLine) = true
            · rw [if_pos hc] at q
              obtain ⟨_, vs, g1, g2⟩ := hr.at_ i _ e
              obtain ⟨b, ws, rfl, g3, g4⟩ := vwM_at hr ry e2
              obtain ⟨x2, hr2⟩ := lst_write (vs := vs) hr hi e (g2.append g4)
              exact mt_extend pins s σ H _ _ v us Q I rx rs ⟨_, b, vs, ws, rfl, rfl, g1, g3, by rw [← g2.length, ← g4.length]; exact of_decide_eq_true hc, q _ n ρ _ x2 hr2 .non⟩
            · rw [if_neg hc] at q; exact q.elim
        | _ => exact q.elim
  | .ref i, [], _, q => exact q.elim
  | .ref i, _ :: _ :: _, _, q => exact q.elim
  | .non, _, _, q => exact q.elim
  | .bl _, _, _, q => exact q.elim
  | .int _, _, _, q => exact q.elim
  | .str _, _, _, q => exact q.elim
  | .tup _, _, _, q => exact q.elim
  | .lst _, _, _, q => exact q.elim
  | .dct _, _, _, q => exact q.elim
  | .obj _ _, _, _, q => exact q.elim
theorem RelDs.dropLast : ∀ {ds : List D} {vs : List V}, RDs0 X Γ n ρ H ds vs → RDs0 X Γ n ρ H ds.dropLast vs.dropLast
  | _, _, .nil => .nil
  | _, _, .cons _ .nil => .nil
  | _, _, .cons r (.cons r' t) => .cons r (RelDs.dropLast (.cons r' t))
theorem RelDs.erase : ∀ {ds : List D} {vs : List V} (k : Nat), RDs0 X Γ n ρ H ds vs → RDs0 X Γ n ρ H (ds.eraseIdx k) (vs.eraseIdx k)
  | _, _, _, .nil => .nil
  | _, _, 0, .cons _ t => t
  | _, _, k + 1, .cons r t => .cons r (RelDs.erase k t)
/-- pop(), pop(i) -/
def popD : D → List D → AH → Option (D × AH) := fun d ds h => match d with
  | .ref i => match h[i]? with
    | some (.lst xs) => match ds with
      | [] => match xs[xs.length - 1]? with
        | some y => some (y, h.set i (.lst xs.dropLast))
        | none => none
      | [k] => match k with
        | .int j => match ixN xs.length j with
          | some a => match xs[a]? with
            | some y => some (y, h.set i (.lst (xs.eraseIdx a)))
            | none => none
          | none => none
        | _ => none
      | _ => none
    | _ => none
  | _ => none
theorem mt_popD : MtD X Γ "list.pop" popD := by
  intro pins s σ H x xs v us Q h n ρ d ds I rx rs hr rd rds q
  cases d with
  | ref i =>
    simp only [popD] at q
    cases rd with
    | ref hi =>
      cases e : h[i]? with
      | none => rw [e] at q; exact q.elim
      | some o =>
        rw [e] at q
        cases o with
        | lst zs =>
          obtain ⟨_, vs, g1, g2⟩ := hr.at_ i _ e
          simp only at q
          match ds, rds, q with
          | [], .nil, q =>
            simp only at q
            cases e2 : zs[zs.length - 1]? with
            | none => rw [e2] at q; exact q.elim
            | some y =>
              rw [e2] at q
              obtain ⟨yv, g3, g4⟩ := g2.get e2
              obtain ⟨x2, hr2⟩ := lst_write (vs := vs) hr hi e g2.dropLast
              exact mt_pop pins s σ H _ _ v us Q I rx rs ⟨_, vs, yv, rfl, rfl, g1, by rw [← g2.length]; exact g3, q _ n ρ _ x2 hr2 (g4.monoP x2).up⟩
          | [k], .cons rk .nil, q =>
            cases k with
            | int j =>
              cases rk
              simp only at q
              cases e2 : ixN zs.length j with
              | none => rw [e2] at q; exact q.elim
              | some a =>
                simp only [e2] at q
                cases e3 : zs[a]? with
                | none => rw [e3] at q; exact q.elim
                | some y =>
                  rw [e3] at q
                  obtain ⟨yv, g3, g4⟩ := g2.get e3
                  obtain ⟨x2, hr2⟩ := lst_write (vs := vs) hr hi e (g2.erase a)
                  obtain ⟨f1, f2, f3, f4⟩ := ixN_seq e2
                  obtain ⟨_, hz⟩ := I.lst g1
                  have l63 := line63
                  have hl := g2.length
                  obtain ⟨its, m, _, _, hz⟩ := I.lst g1
                  exact mt_popAt pins s σ H _ _ v us Q I rx rs ⟨_, vs, j, a, yv, rfl, rfl, g1, by omega, by omega, by rw [← hl]; exact f1, g3, q _ n ρ _ x2 hr2 (g4.monoP x2).up⟩
            | _ => exact q.elim
          | _ :: _ :: _, _, q => exact q.elim
        | _ => exact q.elim
  | _ => exact q.elim
/-! ### dicts -/
def getD : D → List D → AH → Option (D × AH) := fun d ds h => match dcV h d with
  | some kvs => match ds with
    | [k] => match keyOf k with
      | some _ => some ((lookK k kvs).getD .non, h)
      | none => none
    | _ => none
  | none => none
theorem mt_get (hu : X.A.units + 64 < cLine) : MtD X Γ "dict.get" getD := by
  intro pins s σ H x xs v us Q h n ρ d ds I rx rs hr rd rds q
  unfold getD at q
  cases e : dcV h d with
  | none => rw [e] at q; exact q.elim
  | some kvs =>
    rw [e] at q
    obtain ⟨a, o, es, ep, rfl, da⟩ := dcV_at I hr rd e
    cases rx
    match ds, rds, rs, q with
    | [k], .cons rk .nil, .cons rkv .nil, q =>
      simp only at q
      cases hk : keyOf k with
      | none => rw [hk] at q; exact q.elim
      | some kk =>
        rw [hk] at q
        obtain ⟨ks, qk, di⟩ := da.is I
        have ni := nis I 8 k kk _ _ hk (rk.down (key_val hk)) rkv
        refine callGet_key (by omega) da.sys ni (keyN_depth hk) di fun r hr' => ?_
        rcases da.hit qk hk hr' with ⟨e1, e2⟩ | ⟨u', vd, vv, e1, e2, r1, r2⟩
        · rw [e2] at q
          rw [e1]
          exact ⟨.non, H, I.tok _, rfl, q _ n ρ H Ext.refl hr .non⟩
        · rw [e2] at q
          rw [e1]
          exact ⟨vv, H, I.tok _, r2, q _ n ρ H Ext.refl hr r1.up⟩
    | [], _, _, q => exact q.elim
    | _ :: _ :: _, _, _, q => exact q.elim
/-- setdefault -/
def sdfD : D → List D → AH → Option (D × AH) := fun d ds h => match d with
  | .ref i => match h[i]? with
    | some (.dct kvs) => match ds with
      | [k, v] => match keyOf k with
        | some _ => match lookK k kvs with
          | some y => if decide (kvs.length ≤ sizeLine) = true then some (y, h) else none
          | none => if (decide (kvs.length ≤ sizeLine) && isV v) = true then some (v, h.set i (.dct (putK k v kvs))) else none
        | none => none
      | _ => none
    | _ => none
  | _ => none
theorem mt_sdf (hu : X.A.units + 64 < cLine) : MtD X Γ "dict.setdefault" sdfD := by
  intro pins s σ H x xs v us Q h n ρ d ds I rx rs hr rd rds q
  cases d with
  | ref i =>
    simp only [sdfD] at q
    cases rd with
    | ref hi =>
      cases rx
      cases e : h[i]? with
      | none => rw [e] at q; exact q.elim
      | some o =>
        rw [e] at q
        cases o with
        | dct kvs =>
          have zz := hr.at_ i _ e
          have da : ∃ o es ep, DAt X Γ n ρ H s.heap (ρ.to i) o es ep kvs := by
            obtain ⟨_, o, es, ep, g1, g2, g3, g4, g5, g6⟩ := zz
            exact ⟨o, es, ep, hd_get I g1, g2, g3, g4, g5, g6⟩
          obtain ⟨o, es, ep, da⟩ := da
          simp only at q
          match ds, rds, rs, q with
          | [k, w'], .cons rk (.cons rw' .nil), .cons rkv (.cons rwv .nil), q =>
            simp only at q
            cases hk : keyOf k with
            | none => rw [hk] at q; exact q.elim
            | some kk =>
              simp only [hk] at q
              obtain ⟨ks, qk, di⟩ := da.is I
              have rk0 := rk.down (key_val hk)
              have ni := nis I 8 k kk _ _ hk rk0 rkv
              have hzz : kvs.length ≤ sizeLine := by
                cases hl : lookK k kvs with
                | some y =>
                  rw [hl] at q
                  by_cases hc : decide (kvs.length ≤ sizeLine) = true
                  · exact of_decide_eq_true hc
                  · simp only [if_neg hc] at q; exact q.elim
                | none =>
                  rw [hl] at q
                  by_cases hc : (decide (kvs.length ≤ sizeLine) && isV w') = true
                  · exact of_decide_eq_true (Bool.and_eq_true_iff.mp hc).1
                  · simp only [if_neg hc] at q; exact q.elim
              refine setDef_key (by omega) da.sys ni (keyN_depth hk) di (by rw [← Array.length_toList, ← da.rel.length]; exact hzz) (fun j ent hj he => ?_) fun h' o' es' ep' g1 g2 g3 hn p sb => ?_
              · rcases da.hit qk hk (.yes hj he) with ⟨e1, _⟩ | ⟨u', vd, vv, e1, e2, r1, r2⟩
                · cases e1
                · cases e1
                  simp only [e2] at q
                  rw [if_pos (decide_eq_true hzz)] at q
                  exact ⟨vv, H, I.tok _, r2, q _ n ρ H Ext.refl hr r1.up⟩
              · have hl := lookK_none qk hk hn
                simp only [hl] at q
                by_cases hc : (decide (kvs.length ≤ sizeLine) && isV w') = true
                · rw [if_pos hc] at q
                  have rw0 := rw'.down (Bool.and_eq_true_iff.mp hc).2
                  obtain ⟨I2, x2, hr2⟩ := dict_put (t' := s.toks + kk.draws) I hr hi e da qk hk rk0 rkv rw0 rwv g1 g2 g3 p sb
                  exact ⟨_, _, I2, rwv, q _ n ρ _ x2 hr2 (rw'.mono x2)⟩
                · rw [if_neg hc] at q; exact q.elim
          | [], _, _, q => exact q.elim
          | [_], _, _, q => exact q.elim
          | _ :: _ :: _ :: _, _, _, q => exact q.elim
        | _ => exact q.elim
  | _ => exact q.elim
end
end MP
set_option Elab.async false
set_option linter.all false
set_option maxRecDepth 100000
set_option maxHeartbeats 4000000
/-! MPL: dicts, enumerate, zip as what is walked. -/
namespace MP
open PySem PySem.Spec PyProof.Rows L2
/-- the dict's object is known -/
def KnD (K : PySem.W.Frag) (H : Hp) (d : Addr) (o : Obj) : Prop := H d = some (HD d o) ∨ K.lookup d = some o
def ItK (K : PySem.W.Frag) (d : Addr) (o : Obj) (es : Array DictEntry) : It :=
  ⟨fun i H => KnD K H d o ∧ ∃ e x, es[i]? = some e ∧ RelV x e.key, fun i H x H' => H' = H ∧ ∃ e, es[i]? = some e ∧ RelV x e.key, fun i H => KnD K H d o ∧ es.size ≤ i⟩
def ItM (K : PySem.W.Frag) (d : Addr) (o : Obj) (es : Array DictEntry) : It :=
  ⟨fun i H => KnD K H d o ∧ ∃ e x y, es[i]? = some e ∧ RelV x e.key ∧ RelV y e.val, fun i H v H' => ∃ T e x y, v = .ref T ∧ H T = none ∧ H' = upd H T (.tup [x, y]) ∧ es[i]? = some e ∧ RelV x e.key ∧ RelV y e.val, fun i H => KnD K H d o ∧ es.size ≤ i⟩
theorem KnD.get {X : Cx} {pins : List (Addr × Obj)} {σ : L2.St} {H : Hp} {s : Shared} {d : Addr} {o : Obj} (k : KnD X.K H d o) (I : Inv X pins σ H s) : s.heap.get? d = some o := k.elim (hd_get I) (I.kIn _ _)
theorem turn_keyR {P : Program} {w : World} {K : PySem.W.Frag} {tg : Expr} {d : Addr} {o : Obj} {es : Array DictEntry} {ep : Nat} (it : Addr) (hx : o.ExactDict) (hod : o.data = .dict es ep) : Turn P w K tg (ItK K d o es) [it] it (fun i h => h.IsKeyIter it d i es.size ep) where
  mem := by simp
  obj := fun i h st b hb => by
    have e : b = it := by simpa using hb
    subst e
    obtain ⟨oi, e, c, dd⟩ := st
    exact ⟨oi, e, fun v z => by rw [dd] at z; cases z⟩
  keep := fun i h h' st k => st.at fun oi e => k it (by simp) oi e
  item := by
    intro X hP hw hK hc i pins s σ H E I hf st hg
    subst hP hw hK
    obtain ⟨kd, en, x, he, rx⟩ := hg
    obtain ⟨f0, f1, f2, f3, f4, f5⟩ := hf it (by simp)
    refine next_key_item st (kd.get I) hod rfl he fun h' st' sb => ?_
    obtain ⟨oi, e, c, dd⟩ := id st'
    exact ⟨en.key, rfl, go_of (s := { s with heap := h' }) e c dd (by decide) ⟨x, H, I.turned (t' := s.toks) (fun b ob hb e => (sb.2 b hb).trans e) f0 f1 f3 f4 f5, rx, ⟨rfl, en, he, rx⟩, st', fun b hb => (hf b hb).1⟩⟩
  done := by
    intro X hP hw hK hc i pins s σ H E I hf st hg
    subst hP hw hK
    obtain ⟨f0, f1, f2, f3, f4, f5⟩ := hf it (by simp)
    exact next_key_end (I.ok.hd hc) st (hg.1.get I) hod rfl hg.2 fun h' eb => ⟨rfl, I.turned (t' := s.toks) (fun b ob hb e => eb b ob hb e) f0 f1 f3 f4 f5⟩
  self := fun A i s Q E st h => by
    refine wpAny_pyIter_slot st.typeIs F.slot_dict_keyiterator_iter (wpAny_call_entry F.slot_dict_keyiterator_iter st.typeIs F.entry_dict_keyiterator_iter ?_ (F.args_dict_keyiterator_iter_1 _))
    show wpAny _ _ (ret (.ref it)) _ _ s
    exact wpAny_pure ⟨_, rfl, _, _, st.typeIs, F.slot_dict_keyiterator_next.lookup, h⟩
theorem turn_itemR {P : Program} {w : World} {K : PySem.W.Frag} {elts : List Expr} {kk : Nat} {tpos : Pos} {d : Addr} {o : Obj} {es : Array DictEntry} {ep : Nat} (it : Addr) (hx : o.ExactDict) (hod : o.data = .dict es ep) : Turn P w K (.Tuple elts kk tpos) (ItM K d o es) [it] it (fun i h => ∃ ok ov, IsItemIter h it d i es.size ep ok ov) where
  mem := by simp
  obj := fun i h st b hb => by
    have e : b = it := by simpa using hb
    subst e
    obtain ⟨ok, ov, e⟩ := st
    exact ⟨_, e, fun v z => nomatch z⟩
  keep := fun i h h' st k => let ⟨ok, ov, e⟩ := st; ⟨ok, ov, k it (by simp) _ e⟩
  item := by
    intro X hP hw hK hc i pins s σ H E I hf st hg
    subst hP hw hK
    obtain ⟨kd, en, x, y, he, rx, ry⟩ := hg
    obtain ⟨ok, ov, hi⟩ := st
    have hlt : it < s.heap.objs.size := Heap.lt_size hi
    obtain ⟨hl, hen⟩ := Array.getElem?_eq_some_iff.mp he
    refine wpAny_pyNext_items_item_raw hi ⟨o, kd.get I, hx, hod⟩ hl fun h' ho hT hz hk => ?_
    refine ⟨_, rfl, wpAny_letOwnedTupleGo_items (s := { s with heap := h' }) ho fun h'' he' sb => ?_⟩
    rw [hen] at hT he'
    have hT2 : h''.get? s.heap.objs.size = some { cls := .type "tuple", data := .seq #[en.key, en.val] } := (sb.2 _ (Nat.ne_of_gt hlt)).trans hT
    have new : ObjOk X.prog X.w (upd H s.heap.objs.size (.tup [x, y])) h'' s.heap.objs.size (.tup [x, y]) := ⟨by show 2 ≤ sizeLine; decide, [en.key, en.val], .cons rx (.cons ry .nil), ⟨_, hT2, rfl, _, rfl⟩⟩
    have I1 : Inv X pins σ (upd H s.heap.objs.size (.tup [x, y])) { s with heap := h'' } :=
      I.turnedNew (t' := s.toks) (ch := [it]) (fun b ob hb e => (sb.2 b (by simpa using hb)).trans (hk b ob (by simpa using hb) e)) hf (Nat.le_refl _) new
    refine ⟨.ref s.heap.objs.size, _, I1, rfl, ⟨_, en, x, y, rfl, I.hok.fresh (Nat.le_refl _), rfl, he, rx, ry⟩, ⟨en.key, en.val, he'⟩, fun b hb => ?_⟩
    have e : b = it := by simpa using hb
    rw [e, upd_ne (Nat.ne_of_lt hlt)]
    exact (hf it (by simp)).1
  done := by
    intro X hP hw hK hc i pins s σ H E I hf st hg
    subst hP hw hK
    obtain ⟨f0, f1, f2, f3, f4, f5⟩ := hf it (by simp)
    obtain ⟨ok, ov, hi⟩ := st
    exact wpAny_pyNext_items_end_raw (I.ok.hd hc) hi ⟨o, hg.1.get I, hx, hod⟩ hg.2 fun h' eb => ⟨rfl, I.turned (t' := s.toks) (fun b ob hb e => eb b ob hb e) f0 f1 f3 f4 f5⟩
  self := fun A i s Q E st h => let ⟨_, _, e⟩ := st; wpAny_pyIter_itemiter e h
section
variable {X : Cx} {Γ : Gm} {W : WX} {pins : List (Addr × Obj)} {σ : L2.St} {H : Hp} {s : Shared} {n : Nat} {ρ : Rho} {h : AH} {tg : Expr}
theorem RelKs.at' : ∀ {kvs : List (D × D)} {es : List DictEntry} {i : Nat} {e : DictEntry}, RelKs X.w X.K Γ n ρ H kvs es → es[i]? = some e → ∃ kd vd kv vv, kvs[i]? = some (kd, vd) ∧ RD0 X Γ n ρ H kd kv ∧ RelV kv e.key ∧ RD0 X Γ n ρ H vd vv ∧ RelV vv e.val
  | _, _, _, _, .nil, q => by simp at q
  | _, _, 0, _, .cons a b c d e f t, q => by
    simp at q
    subst q
    exact ⟨_, _, _, _, rfl, a, b, e, f⟩
  | _, _, i + 1, _, .cons a b c d e f t, q => by
    obtain ⟨kd, vd, kv, vv, h1, h2⟩ := RelKs.at' (i := i) t (by simpa using q)
    exact ⟨kd, vd, kv, vv, by simpa using h1, h2⟩
/-- a dict that is a value: its object stays -/
theorem dct_kn {m : Nat} {kvs : List (D × D)} {v : V} (hm : m ≤ n) (r : RelD X.w X.K Γ n ρ H m (.dct kvs) v) : ∃ a o es ep, v = .ref a ∧ o.ExactDict ∧ o.data = .dict es ep ∧ (a == sysModules) = false ∧
    ∀ n1 ρ1 H1, Ext0 n ρ H n1 ρ1 H1 → KnD X.K H1 a o ∧ RelKs X.w X.K Γ n1 ρ1 H1 kvs es.toList := by
  cases r with
  | dct e f a b c nd r => exact ⟨_, _, _, _, rfl, a, b, c, fun n1 ρ1 H1 x => ⟨.inl (x.keep _ _ e f (fun _ z => by cases z)).1, r.mono0 x⟩⟩
  | dctK e a b c nd r => exact ⟨_, _, _, _, rfl, a, b, c, fun n1 ρ1 H1 x => ⟨.inr e, r.mono0 x⟩⟩
theorem itr_keys {kvs : List (D × D)} {a : Addr} {o : Obj} {es : Array DictEntry} (k : ∀ n1 ρ1 H1, Ext0 n ρ H n1 ρ1 H1 → KnD X.K H1 a o ∧ RelKs X.w X.K Γ n1 ρ1 H1 kvs es.toList) : ItR X Γ n ρ H (kvs.map (·.1)) (ItK X.K a o es) := by
  intro i n1 ρ1 H1 h1 x hr
  obtain ⟨kn, r⟩ := k n1 ρ1 H1 x
  refine ⟨fun d hd => ?_, fun e => ⟨kn, ?_⟩⟩
  · rw [List.getElem?_map] at hd
    cases e1 : kvs[i]? with
    | none => rw [e1] at hd; cases hd
    | some p =>
      rw [e1] at hd
      cases hd
      obtain ⟨kv, vv, k', en, g1, g2, g3, _⟩ := r.at_ e1
      rw [Array.getElem?_toList] at g1
      refine ⟨⟨kn, en, kv, g1, g3⟩, fun y H' ⟨e2, en', e3, e4⟩ => ?_⟩
      subst e2
      rw [g1] at e3
      cases e3
      cases g3.inj e4
      exact ⟨n1, ρ1, Ext.refl, hr, g2.up⟩
  · rw [e, List.length_map, r.length, Array.length_toList]
    exact Nat.le_refl _
def pairD (p : D × D) : D := .tup [p.1, p.2]
theorem pairD_pt {p : D × D} (h : isUP p.1 = false) : allUP [p.1, p.2] = false := by
  unfold allUP
  rw [List.all_cons, h]
  rfl
theorem itr_items {kvs : List (D × D)} (hup : ∀ p ∈ kvs, isUP p.1 = false) {a : Addr} {o : Obj} {es : Array DictEntry} (k : ∀ n1 ρ1 H1, Ext0 n ρ H n1 ρ1 H1 → KnD X.K H1 a o ∧ RelKs X.w X.K Γ n1 ρ1 H1 kvs es.toList) : ItR X Γ n ρ H (kvs.map pairD) (ItM X.K a o es) := by
  intro i n1 ρ1 H1 h1 x hr
  obtain ⟨kn, r⟩ := k n1 ρ1 H1 x
  refine ⟨fun d hd => ?_, fun e => ⟨kn, ?_⟩⟩
  · rw [List.getElem?_map] at hd
    cases e1 : kvs[i]? with
    | none => rw [e1] at hd; cases hd
    | some p =>
      rw [e1] at hd
      cases hd
      obtain ⟨kv, vv, k', en, g1, g2, g3, g4, g5, g6, g7⟩ := r.at_ e1
      rw [Array.getElem?_toList] at g1
      refine ⟨⟨kn, en, kv, vv, g1, g3, g7⟩, fun y H' ⟨T, en', x', y', e2, e3, e4, e5, e6, e7⟩ => ?_⟩
      subst e2 e4
      rw [g1] at e5
      cases e5
      cases g3.inj e6
      cases g7.inj e7
      refine ⟨n1, ρ1, Ext.new e3, hr.new e3, (.tup upd_same (hr.fresh e3) (pairD_pt (hup _ (List.mem_of_getElem? e1))) (.cons (g2.monoP (Ext.new e3)) (.cons (g6.monoP (Ext.new e3)) .nil)))⟩
  · rw [e, List.length_map, r.length, Array.length_toList]
    exact Nat.le_refl _
/-- what is walked, a dict too: changed no more -/
def frzR (d : D) (h : AH) : Option (D × AH) := match d with
  | .ref i => match h[i]? with
    | some (.lst xs) => some (.lst xs, h.set i (.fz (.lst xs)))
    | some (.dct kvs) => some (.dct kvs, h.set i (.fz (.dct kvs)))
    | some (.fz d) => some (d, h)
    | _ => none
  | d => some (d, h)
theorem frzR_ok {d d' : D} {h' : AH} {v : V} (hr : HR X Γ n ρ H h) (r : RD X Γ n ρ H d v) (e : frzR d h = some (d', h')) : ∃ ρ', Ext n ρ H n ρ' H ∧ HR X Γ n ρ' H h' ∧ RD0 X Γ n ρ' H d' v := by
  cases d with
  | ref i =>
    simp only [frzR] at e
    cases r with
    | ref hi =>
      cases q : h[i]? with
      | none => rw [q] at e; cases e
      | some o =>
        rw [q] at e
        cases o with
        | lst xs => cases e; obtain ⟨a, b, c⟩ := frz_lst hr hi q; exact ⟨_, a, b, c⟩
        | dct kvs =>
          cases e
          obtain ⟨_, o, es, ep, g1, g2, g3, g4, g5, g6⟩ := hr.at_ i _ q
          have rr : RD0 X Γ n (fzAt ρ i) H (.dct kvs) (.ref (ρ.to i)) := .dct g1 (hr.frozen hi) g2 g3 g4 g5 (g6.mono Ext.freeze)
          exact ⟨_, Ext.freeze, hr.freeze hi ⟨_, g1, fun _ z => by cases z⟩ rr, rr⟩
        | fz d => cases e; exact ⟨ρ, Ext.refl, hr, (hr.at_ i _ q).2.2⟩
        | ins c fs => cases e
  | _ => cases e; exact ⟨ρ, Ext.refl, hr, r.down rfl⟩
def itA (d : D) (h : AH) : Res (List D) := match frzR d h with
  | some (d', h') => match d' with
    | .dct kvs => okR (kvs.map (·.1)) h'
    | .tup xs => okR xs h'
    | .lst xs => okR xs h'
    | _ => none
  | none => none
theorem iterA_ok {v : Value} {x : V} {d : D} {R : It → Hp → Prop} {Wx : Value → Option Addr → Hp → Prop} (I : Inv X pins σ H s) (rv : RelV x v) (hr : HR X Γ n ρ H h) (rd : RD X Γ n ρ H d x) (q : Post X Γ (ItR X Γ) n ρ H Wx (itA d h) R) :
    wpAny (model X.prog X.w) X.A (pyIter v) (PIE X pins σ tg R) X.xe s := by
  unfold itA at q
  cases e : frzR d h with
  | none => rw [e] at q; exact q.elim
  | some p =>
    obtain ⟨d', h'⟩ := p
    rw [e] at q
    obtain ⟨ρ', x1, hr1, r1⟩ := frzR_ok hr rd e
    have q := Post.mono x1 q
    cases d' with
    | dct kvs =>
      obtain ⟨a, o, es, ep, rfl, g1, g2, g3, g4⟩ := dct_kn (Nat.zero_le _) r1
      cases rv
      have kn := (g4 n ρ' H Ext0.refl).1
      refine iter_keys g3 (kn.get I) g1 g2 (pi_one (tk := s.toks) I _ (turn_keyR _ g1 g2) ⟨_, Heap.get?_push_size _ rfl, rfl, rfl⟩ (q _ n ρ' H Ext.refl hr1 (itr_keys g4)))
    | tup xs => exact iter_ok I rv hr1 r1.up (show Post X Γ (ItR X Γ) n ρ' H Wx (itR (.tup xs) h') R from q)
    | lst xs => exact iter_ok I rv hr1 r1.up (show Post X Γ (ItR X Γ) n ρ' H Wx (itR (.lst xs) h') R from q)
    | _ => exact q.elim
def ivAny (f : Ev) : Env' → AH → Res (List D) := fun E h => bindR (f E h) itA
theorem di_any {iter : Expr} {f : Ev} (p : DE X Γ W iter f) : DI X Γ W tg iter (ivAny f) :=
  ⟨fun pins s σ H R I ⟨E, h0, n, ρ, er, hr, q⟩ => thn (p.run pins s σ H _ I ⟨E, h0, n, ρ, er, hr, Post.bind (R := RelT X.w X.K Γ) q⟩) fun v s1 ⟨x, H1, I1, r1, d, h1, n1, ρ1, x1, hr1, rd, q1⟩ => iterA_ok I1 r1 hr1 rd q1⟩
/-- d.items() -/
def itM (d : D) (h : AH) : Res (List D) := match frzR d h with
  | some (d', h') => match d' with
    | .dct kvs => if (kvs.all fun p => !isUP p.1) = true then okR (kvs.map pairD) h' else none
    | _ => none
  | none => none
def ivItems (f : Ev) : Env' → AH → Res (List D) := fun E h => bindR (f E h) itM
theorem di_items {iter : Expr} {f : Ev} {elts : List Expr} {kk : Nat} {tpos apos cpos : Pos} (p : DE X Γ W iter f) (hbase : attributeBase iter "items" X.env (eval iter X.env) = eval iter X.env) (hline : (apos.endLine == cpos.line) = true) :
    DI X Γ W (.Tuple elts kk tpos) (.Call (.Attribute iter "items" apos) [] [] cpos) (ivItems f) := by
  refine ⟨fun pins s σ H R I ⟨E, h0, n, ρ, er, hr, q⟩ => ?_⟩
  refine wpAny_Call_method (T := "dict") (id := "dict.items") hbase rfl hline F.plainAttrs_dict F.slot_dict_items F.type_dict_items (thn (p.run pins s σ H _ I ⟨E, h0, n, ρ, er, hr, Post.bind (R := RelT X.w X.K Γ) q⟩) fun v s1 ⟨x, H1, I1, r1, d, h1, n1, ρ1, x1, hr1, rd, q1⟩ => ?_)
  unfold itM at q1
  cases e : frzR d h1 with
  | none => rw [e] at q1; exact q1.elim
  | some p =>
    obtain ⟨d', h'⟩ := p
    rw [e] at q1
    obtain ⟨ρ', x2, hr2, r2⟩ := frzR_ok hr1 rd e
    have q1 := Post.mono x2 q1
    cases d' with
    | dct kvs =>
      simp only at q1
      have hup : ∀ p ∈ kvs, isUP p.1 = false := fun p hp => by
        by_cases hc : (kvs.all fun p => !isUP p.1) = true
        · have z := List.all_eq_true.mp hc p hp
          simpa using z
        · rw [if_neg hc] at q1; exact q1.elim
      have hc : (kvs.all fun p => !isUP p.1) = true := List.all_eq_true.mpr fun p hp => by rw [hup p hp]; rfl
      rw [if_pos hc] at q1
      obtain ⟨a, o, es, ep, rfl, g1, g2, g3, g4⟩ := dct_kn (Nat.zero_le _) r2
      cases r1
      have kn := (g4 n1 ρ' H1 Ext0.refl).1
      have hg := kn.get I1
      have raw : s1.heap.DictRaw a es ep := ⟨o, hg, g1, g2⟩
      refine ⟨raw.typeIs, fun b z => by cases z; exact ⟨o, hg, g1.2.1⟩, ?_⟩
      have I2 : Inv X pins σ H1 { s1 with heap := s1.heap.push { cls := .type "dict_items", data := .fields #[.ref a] } } := I1.kept (t' := s1.toks) fun b ob q => Heap.get?_push_of_some _ q
      have fin : wpAny (model X.prog X.w) X.A (pyIter (.ref s1.heap.objs.size)) (PIE X pins σ (.Tuple elts kk tpos) R) X.xe { s1 with heap := s1.heap.push { cls := .type "dict_items", data := .fields #[.ref a] } } :=
        wpAny_pyIter_items_raw (d := a) ⟨_, Heap.get?_push_size _ rfl, rfl, rfl⟩ (raw.push _) (pi_one (tk := s1.toks) I2 _ (turn_itemR _ g1 g2) ⟨.none, .none, Heap.get?_push_size _ rfl⟩ (q1 _ n1 ρ' H1 Ext.refl hr2 (itr_items hup g4)))
      show wpAny _ _ (callWith cpos (.builtin "dict.items") [.ref a] [] []) _ X.xe s1
      exact method_meetsIn F.slot_dict_items F.entry_dict_items rfl (PySem.evalArgs_none ⟨rfl, raw.typeIs, F.args_dict_items_1 _, _, meets_dict_items_raw a g3, ⟨es, ep, raw⟩, fin⟩)
    | _ => exact q1.elim
end
end MP
set_option Elab.async false
set_option linter.all false
set_option maxRecDepth 100000
set_option maxHeartbeats 4000000
/-! MPM: enumerate, zip. -/
namespace MP
open PySem PySem.Spec PyProof.Rows L2
/-- enumerate(v) makes its two cells -/
theorem enum_new {v : Value} {o : Obj} {G : Heap → Prop} (B : Begins v o G) :
    Meets (Builtin.«enumerate.__new__» ⟨[.type "enumerate", v], []⟩) (fun _ R s => G s.heap ∧
      R (.ok (.ret (.ref (s.heap.push o).objs.size))) { s with heap := (s.heap.push o).push { cls := .type "enumerate", data := .fields #[.none, .bool false, .ref s.heap.objs.size, rawInt 0, .none, .none] } }) :=
  .of_wp fun prog w A R s h => by
    obtain ⟨hp, g, d, tk, os⟩ := s
    obtain ⟨h1, h⟩ := h
    have hsub := sub_enumerate
    have it : ∀ {A' : Around} {E : Value → Shared → Prop} {Q : Value → Shared → Prop}, Q (.ref hp.objs.size) ⟨hp.push o, g, d, tk, os⟩ → wpAny (model prog w) A' (pyIter v) Q E ⟨hp, g, d, tk, os⟩ := fun q => B.iter prog w _ _ ⟨hp, g, d, tk, os⟩ _ h1 q
    wp_walk using it
    refine wpAny_stack_any fun st => wpAny_pure ?_
    split
    · rename_i c _ _ _ _ _
      cases (c == Value.type "enumerate") <;> (wp_walk using it; exact ⟨_, rfl, h⟩)
    · wp_walk using it
      exact ⟨_, rfl, h⟩
theorem call_enum {prog : Program} {w : World} {A : Around} {E : Value → Shared → Prop} {s : Shared} {v : Value} {o : Obj} {G : Heap → Prop} {Q : Value → Shared → Prop} (B : Begins v o G) (h1 : G s.heap)
    (h : ∀ h', IsEnum h' (s.heap.objs.size + 1) s.heap.objs.size 0 .none → h'.get? s.heap.objs.size = some o → (∀ b o, s.heap.get? b = some o → h'.get? b = some o) → Q (.ref (s.heap.objs.size + 1)) { s with heap := h' }) :
    wpAny (model prog w) A (call (.type "enumerate") [v]) Q E s := by
  refine callType_new F.called_enumerate (by decide) (F.typeCall_enumerate_1 _) (F.newCall_enumerate_1 _) (fun obj => F.args_object_init_2 obj _) F.entry_enumerate_new (enum_new B) ⟨h1, ?_⟩
  have hz : (s.heap.push o).objs.size = s.heap.objs.size + 1 := Heap.size_push ..
  show _ ∧ _
  rw [hz]
  have he : IsEnum ((s.heap.push o).push { cls := .type "enumerate", data := .fields #[.none, .bool false, .ref s.heap.objs.size, rawInt 0, .none, .none] }) (s.heap.objs.size + 1) s.heap.objs.size 0 .none := by
    have q := Heap.get?_push_size (s.heap.push o) (o := { cls := .type "enumerate", data := .fields #[.none, .bool false, .ref s.heap.objs.size, rawInt 0, .none, .none] }) rfl
    rw [hz] at q
    exact q
  exact ⟨⟨_, he, rfl⟩, h _ he (Heap.get?_push_of_some _ (Heap.get?_push_size _ B.free)) fun b o x => Heap.get?_push_of_some _ (Heap.get?_push_of_some _ x)⟩
def IteT (K : PySem.W.Frag) (a : Addr) : It :=
  ⟨fun i H => ∃ (xs : List V) (x : V), SqT K H a xs ∧ xs[i]? = some x, fun i H v H' => ∃ T x, v = .ref T ∧ H T = none ∧ H' = upd H T (.tup [.int (i : Nat), x]) ∧ ∀ xs, SqT K H a xs → xs[i]? = some x, fun i H => ∃ xs : List V, SqT K H a xs ∧ xs.length = i⟩
theorem turn_enumT {P : Program} {w : World} {K : PySem.W.Frag} {elts : List Expr} {kk : Nat} {tpos : Pos} (a e it : Addr) (hai : a ≠ it) (hae : a ≠ e) :
    Turn P w K (.Tuple elts kk tpos) (IteT K a) [e, it] e (fun i h => (∃ old, IsEnum h e it ((i : Nat) : Int) old) ∧ h.IsTupleIter it a i ∧ e ≠ it) where
  mem := by simp
  obj := fun i h st b hb => by
    obtain ⟨⟨old, he⟩, ⟨o, ho, hc, hd⟩, _⟩ := st
    rcases (show b = e ∨ b = it by simpa using hb) with z | z
    · rw [z]; exact ⟨_, he, fun v q => nomatch q⟩
    · rw [z]; exact ⟨o, ho, fun v q => by rw [hd] at q; cases q⟩
  keep := fun i h h' st k => let ⟨⟨old, he⟩, hi, hne⟩ := st; ⟨⟨old, k e (by simp) _ he⟩, hi.at fun o q => k it (by simp) o q, hne⟩
  item := by
    intro X hP hw hK hc i pins s σ H E I hf st hg
    subst hP hw hK
    obtain ⟨⟨old, he⟩, hit, hne⟩ := st
    obtain ⟨xs, x, hq, hx⟩ := hg
    obtain ⟨its, rv, p, hz⟩ := I.tuple hq
    obtain ⟨u, hu, ru⟩ := rv.get hx
    have hel : e < s.heap.objs.size := Heap.lt_size he
    have hil : it < s.heap.objs.size := by obtain ⟨_, q, _⟩ := hit; exact Heap.lt_size q
    have D := Draws.tuple (prog := X.prog) (w := X.w) (A := X.A.in1) (I.ok.hd hc) it a hai its.toArray
    have hlt : i < its.toArray.size := by
      have := (List.getElem?_eq_some_iff.mp hu).1
      simpa using this
    refine wpAny_pyNext_enum_itemC D he ⟨hit, p⟩ hlt hne (by simp [hne, Ne.symm hae]) fun u' h' tk hp ho hst hT hsz hk => ?_
    have eu : u' = u := by
      have h1 : its.toArray[i]? = some u := by simpa using hu
      rw [h1] at hp
      exact (Option.some.inj hp).symm
    subst eu
    refine ⟨_, rfl, wpAny_letOwnedTupleGo_enum (s := { s with heap := h', toks := tk + 1 }) ho fun h'' he' sb => ?_⟩
    have hT2 : h''.get? s.heap.objs.size = some { cls := .type "tuple", data := .seq #[.int i tk, u'] } := (sb.2 _ (Nat.ne_of_gt hel)).trans hT
    have new : ObjOk X.prog X.w (upd H s.heap.objs.size (.tup [.int (i : Nat), x])) h'' s.heap.objs.size (.tup [.int (i : Nat), x]) := ⟨by show 2 ≤ sizeLine; decide, [.int i tk, u'], .cons ⟨_, rfl⟩ (.cons ru .nil), ⟨_, hT2, rfl, _, rfl⟩⟩
    have I1 : Inv X pins σ (upd H s.heap.objs.size (.tup [.int (i : Nat), x])) { s with heap := h'', toks := tk + 1 } :=
      I.turnedNew (ch := [e, it]) (fun b ob hb q => (sb.2 b (fun z => hb (by simp [z]))).trans (hk b ob (fun z => hb (by simp [z])) (fun z => hb (by simp [z])) q)) hf (Nat.le_refl _) new
    refine ⟨.ref s.heap.objs.size, _, I1, rfl, ⟨_, x, rfl, I.hok.fresh (Nat.le_refl _), rfl, fun ys hy => by rw [I.tuple_inj hy hq]; exact hx⟩, ⟨⟨u', ?_⟩, hst.1.at fun o q => (sb.2 it (Ne.symm hne)).trans q, hne⟩, fun b hb => ?_⟩
    · have e1 : ((i + 1 : Nat) : Int) = (i : Int) + 1 := by omega
      rw [e1]; exact he'
    · have hb' : b < s.heap.objs.size := by
        rcases (show b = e ∨ b = it by simpa using hb) with z | z
        · rw [z]; exact hel
        · rw [z]; exact hil
      rw [upd_ne (Nat.ne_of_lt hb')]
      exact (hf b hb).1
  done := by
    intro X hP hw hK hc i pins s σ H E I hf st hg
    subst hP hw hK
    obtain ⟨⟨old, he⟩, hit, hne⟩ := st
    obtain ⟨xs, hq, hx⟩ := hg
    obtain ⟨its, rv, p, hz⟩ := I.tuple hq
    obtain ⟨f0, f1, f2, f3, f4, f5⟩ := hf it (by simp)
    have hl := rv.length
    have D := Draws.tuple (prog := X.prog) (w := X.w) (A := X.A.in1) (I.ok.hd hc) it a hai its.toArray
    have hi : i = its.toArray.size := by rw [List.size_toArray]; omega
    subst hi
    exact wpAny_pyNext_enum_endD D he ⟨hit, p⟩ fun h' eb => ⟨rfl, I.turned (t' := s.toks) (fun b o hb q => eb b o hb q) f0 f1 f3 f4 f5⟩
  self := fun A i s Q E st h => let ⟨⟨_, he⟩, _⟩ := st; wpAny_pyIter_enum he h
section
variable {X : Cx} {Γ : Gm} {W : WX} {pins : List (Addr × Obj)} {σ : L2.St} {H : Hp} {s : Shared} {n : Nat} {ρ : Rho} {h : AH} {tg : Expr}
def enumF : Nat → List D → List D
  | _, [] => []
  | i, d :: ds => .tup [.int (i : Nat), d] :: enumF (i + 1) ds
theorem enumF_at : ∀ {ds : List D} {j i : Nat} {d : D}, (enumF j ds)[i]? = some d → ∃ x, ds[i]? = some x ∧ d = .tup [.int ((j + i : Nat) : Int), x]
  | [], _, _, _, e => by simp [enumF] at e
  | x :: ds, j, 0, d, e => by
    simp [enumF] at e
    exact ⟨x, rfl, e.symm⟩
  | x :: ds, j, i + 1, d, e => by
    have e' : (enumF (j + 1) ds)[i]? = some d := by simpa [enumF] using e
    obtain ⟨y, h1, h2⟩ := enumF_at e'
    exact ⟨y, by simpa using h1, by rw [h2]; congr 4; omega⟩
theorem enumF_len : ∀ {ds : List D} {j : Nat}, (enumF j ds).length = ds.length
  | [], _ => rfl
  | _ :: ds, j => congrArg Nat.succ (enumF_len (ds := ds) (j := j + 1))
theorem itr_enumT {ds : List D} {a : Addr} (r : RD0 X Γ n ρ H (.tup ds) (.ref a)) : ItR X Γ n ρ H (enumF 0 ds) (IteT X.K a) := by
  intro i n1 ρ1 H1 h1 x hr
  obtain ⟨a', vs, e, hs, rs⟩ := RelD.tup_seq (r.monoP0 x)
  cases e
  refine ⟨fun d hd => ?_, fun e => ⟨vs, hs, by rw [← rs.length, e, enumF_len]⟩⟩
  obtain ⟨y, e1, e2⟩ := enumF_at hd
  obtain ⟨yv, g1, g2⟩ := rs.get e1
  refine ⟨⟨vs, yv, hs, g1⟩, fun v H' ⟨T, x', e3, e4, e5, e6⟩ => ?_⟩
  have e7 := e6 vs hs
  rw [g1] at e7
  cases e7
  subst e3 e5 e2
  refine ⟨n1, ρ1, Ext.new e4, hr.new e4, .tup upd_same (hr.fresh e4) rfl (.cons ?_ (.cons (g2.monoP (Ext.new e4)) .nil))⟩
  rw [show ((0 + i : Nat) : Int) = (i : Nat) by simp]
  exact .int _
theorem itr_enumL {ds : List D} {a : Addr} (r : RD0 X Γ n ρ H (.lst ds) (.ref a)) : ItR X Γ n ρ H (enumF 0 ds) (Ite X.K a) := by
  intro i n1 ρ1 H1 h1 x hr
  obtain ⟨a', vs, e, hs, rs⟩ := RelD.lst_seq (r.monoP0 x)
  cases e
  refine ⟨fun d hd => ?_, fun e => ⟨vs, hs, by rw [← rs.length, e, enumF_len]; exact Nat.le_refl _⟩⟩
  obtain ⟨y, e1, e2⟩ := enumF_at hd
  obtain ⟨yv, g1, g2⟩ := rs.get e1
  refine ⟨⟨vs, yv, hs, g1⟩, fun v H' ⟨T, x', e3, e4, e5, e6⟩ => ?_⟩
  have e7 := e6 vs hs
  rw [g1] at e7
  cases e7
  subst e3 e5 e2
  refine ⟨n1, ρ1, Ext.new e4, hr.new e4, .tup upd_same (hr.fresh e4) rfl (.cons ?_ (.cons (g2.monoP (Ext.new e4)) .nil))⟩
  rw [show ((0 + i : Nat) : Int) = (i : Nat) by simp]
  exact .int _
/-- enumerate of a tuple, a list -/
def itE (ds : List D) (h : AH) : Res (List D) := match ds with
  | [d] => match frzR d h with
    | some (d', h') => match d' with
      | .tup xs => okR (enumF 0 xs) h'
      | .lst xs => okR (enumF 0 xs) h'
      | _ => none
    | none => none
  | _ => none
def ivEnum (g : Env' → AH → Res (List D)) : Env' → AH → Res (List D) := fun E h => bindR (g E h) itE
theorem di_enum {e : Expr} {g : Env' → AH → Res (List D)} {p pos tpos : Pos} {elts : List Expr} {kk : Nat} (hg : Gl X "enumerate") (hm : X.mg "enumerate" = none) (ha : DA X Γ W [e] g) (hs : starEach [e] X.env = [(false, eval e X.env)]) :
    DI X Γ W (.Tuple elts kk tpos) (.Call (.Name "enumerate" p) [e] [] pos) (ivEnum g) := by
  refine ⟨fun pins s σ H R I ⟨E, h0, n, ρ, er, hr, q⟩ => ?_⟩
  refine Call_ (ld_blt I hg hm boot_enumerate (PyProof.Rows.callWith_type1 (thn (ha.run pos pins s σ H _ I ⟨E, h0, n, ρ, er, hr, Post.bind (R := RelTs X.w X.K Γ) q⟩) fun us s1 ⟨vs, H1, I1, r1, ds, h1, n1, ρ1, x1, hr1, rd, q1⟩ => ?_) hs rfl))
  match ds, rd, r1, q1 with
  | [], _, _, q1 => exact q1.elim
  | _ :: _ :: _, _, _, q1 => exact q1.elim
  | [d], .cons rd .nil, .cons rv .nil, q1 =>
    simp only [itE] at q1
    cases e1 : frzR d h1 with
    | none => rw [e1] at q1; exact q1.elim
    | some p =>
      obtain ⟨d', h'⟩ := p
      rw [e1] at q1
      obtain ⟨ρ', x2, hr2, r2⟩ := frzR_ok hr1 rd e1
      have q1 := Post.mono x2 q1
      have fp2 : ∀ b, b ∈ [s1.heap.objs.size + 1, s1.heap.objs.size] → FpOk X pins H1 b := fun b hb => by
        have hle : s1.heap.objs.size ≤ b := by
          rcases (show b = s1.heap.objs.size + 1 ∨ b = s1.heap.objs.size by simpa using hb) with z | z
          · rw [z]; exact Nat.le_add_right _ _
          · rw [z]; exact Nat.le_refl _
        exact I1.fpOk hle (I1.hok.fresh hle)
      cases d' with
      | tup xs =>
        obtain ⟨a, vs, rfl, hsq, rs⟩ := RelD.tup_seq r2
        cases rv
        obtain ⟨its, rv, p', hz⟩ := I1.tuple hsq
        have hlt : a < s1.heap.objs.size := let ⟨_, q, _⟩ := p'; Heap.lt_size q
        refine call_enum (begins_tuple a its.toArray) p' fun h' he hit hk => wpAny_pyIter_enum he ?_
        refine ⟨s1.heap.objs.size + 1, [s1.heap.objs.size + 1, s1.heap.objs.size], _, _, H1, rfl, I1.kept (t' := s1.toks) hk, turn_enumT a (s1.heap.objs.size + 1) s1.heap.objs.size (Nat.ne_of_lt hlt) (Nat.ne_of_lt (Nat.lt_succ_of_lt hlt)), ⟨⟨.none, he⟩, ⟨_, hit, rfl, rfl⟩, Nat.succ_ne_self _⟩, fp2, q1 _ n1 ρ' H1 Ext.refl hr2 (itr_enumT r2)⟩
      | lst xs =>
        obtain ⟨a, vs, rfl, hsq, rs⟩ := RelD.lst_seq r2
        cases rv
        obtain ⟨its, rv, p', hz⟩ := I1.list hsq
        refine call_enumerate_list p'.isList fun h' he hit hsz hk => wpAny_pyIter_enum he ?_
        exact ⟨s1.heap.objs.size + 1, [s1.heap.objs.size + 1, s1.heap.objs.size], _, _, H1, rfl, I1.kept (t' := s1.toks) hk, turn_enum a (s1.heap.objs.size + 1) s1.heap.objs.size, ⟨⟨.none, he⟩, hit, Nat.succ_ne_self _⟩, fp2, q1 _ n1 ρ' H1 Ext.refl hr2 (itr_enumL r2)⟩
      | _ => exact q1.elim
/-! ### zip of two tuples, of two lists -/
def zipF : List D → List D → List D
  | a :: as, b :: bs => .tup [a, b] :: zipF as bs
  | _, _ => []
theorem zipF_at : ∀ {as bs : List D} {i : Nat} {d : D}, (zipF as bs)[i]? = some d → ∃ x y, as[i]? = some x ∧ bs[i]? = some y ∧ d = .tup [x, y]
  | [], _, _, _, e => by simp [zipF] at e
  | _ :: _, [], _, _, e => by simp [zipF] at e
  | a :: as, b :: bs, 0, d, e => by simp [zipF] at e; exact ⟨a, b, rfl, rfl, e.symm⟩
  | a :: as, b :: bs, i + 1, d, e => by
    obtain ⟨x, y, h1, h2, h3⟩ := zipF_at (i := i) (as := as) (bs := bs) (by simpa [zipF] using e)
    exact ⟨x, y, by simpa using h1, by simpa using h2, h3⟩
theorem zipF_len : ∀ {as bs : List D}, as.length ≤ (zipF as bs).length ∨ bs.length ≤ (zipF as bs).length
  | [], _ => .inl (Nat.zero_le _)
  | _ :: _, [] => .inr (Nat.zero_le _)
  | _ :: as, _ :: bs => by
    rcases zipF_len (as := as) (bs := bs) with z | z
    · exact .inl (Nat.succ_le_succ z)
    · exact .inr (Nat.succ_le_succ z)
def itZ (ds : List D) (h : AH) : Res (List D) := match ds with
  | [a, b] => match frzR a h with
    | some (a', h1) => match frzR b h1 with
      | some (b', h2) => match a', b' with
        | .tup xs, .tup ys => if (xs.all fun x => !isUP x) = true then okR (zipF xs ys) h2 else none
        | .lst xs, .lst ys => if (xs.all fun x => !isUP x) = true then okR (zipF xs ys) h2 else none
        | _, _ => none
      | none => none
    | none => none
  | _ => none
def ivZip (g : Env' → AH → Res (List D)) : Env' → AH → Res (List D) := fun E h => bindR (g E h) itZ
theorem itr_zipT {xs ys : List D} {a b : Addr} (hup : ∀ x ∈ xs, isUP x = false) (r : RD0 X Γ n ρ H (.tup xs) (.ref a)) (r' : RD0 X Γ n ρ H (.tup ys) (.ref b)) : ItR X Γ n ρ H (zipF xs ys) (RZ.ItzT X.K a b) := by
  intro i n1 ρ1 H1 h1 x hr
  obtain ⟨a', vs, e, hs, rs⟩ := RelD.tup_seq (r.monoP0 x)
  cases e
  obtain ⟨b', us, e, hs2, rs2⟩ := RelD.tup_seq (r'.monoP0 x)
  cases e
  refine ⟨fun d hd => ?_, fun e => ⟨vs, us, hs, hs2, by rw [← rs.length, ← rs2.length, e]; exact zipF_len⟩⟩
  obtain ⟨p, q, e1, e2, e3⟩ := zipF_at hd
  obtain ⟨pv, g1, g2⟩ := rs.get e1
  obtain ⟨qv, g3, g4⟩ := rs2.get e2
  refine ⟨⟨vs, us, pv, qv, hs, hs2, g1, g3⟩, fun v H' ⟨T, x', y', e4, e5, e6, e7, e8⟩ => ?_⟩
  have z1 := e7 vs hs
  have z2 := e8 us hs2
  rw [g1] at z1
  rw [g3] at z2
  cases z1
  cases z2
  subst e4 e6 e3
  exact ⟨n1, ρ1, Ext.new e5, hr.new e5, .tup upd_same (hr.fresh e5) (pairD_pt (p := (_, _)) (hup _ (List.mem_of_getElem? e1))) (.cons (g2.monoP (Ext.new e5)) (.cons (g4.monoP (Ext.new e5)) .nil))⟩
theorem itr_zipL {xs ys : List D} {a b : Addr} (hup : ∀ x ∈ xs, isUP x = false) (r : RD0 X Γ n ρ H (.lst xs) (.ref a)) (r' : RD0 X Γ n ρ H (.lst ys) (.ref b)) : ItR X Γ n ρ H (zipF xs ys) (Itz X.K a b) := by
  intro i n1 ρ1 H1 h1 x hr
  obtain ⟨a', vs, e, hs, rs⟩ := RelD.lst_seq (r.monoP0 x)
  cases e
  obtain ⟨b', us, e, hs2, rs2⟩ := RelD.lst_seq (r'.monoP0 x)
  cases e
  refine ⟨fun d hd => ?_, fun e => ⟨vs, us, hs, hs2, by rw [← rs.length, ← rs2.length, e]; exact zipF_len⟩⟩
  obtain ⟨p, q, e1, e2, e3⟩ := zipF_at hd
  obtain ⟨pv, g1, g2⟩ := rs.get e1
  obtain ⟨qv, g3, g4⟩ := rs2.get e2
  refine ⟨⟨vs, us, pv, qv, hs, hs2, g1, g3⟩, fun v H' ⟨T, x', y', e4, e5, e6, e7, e8⟩ => ?_⟩
  have z1 := e7 vs hs
  have z2 := e8 us hs2
  rw [g1] at z1
  rw [g3] at z2
  cases z1
  cases z2
  subst e4 e6 e3
  exact ⟨n1, ρ1, Ext.new e5, hr.new e5, .tup upd_same (hr.fresh e5) (pairD_pt (p := (_, _)) (hup _ (List.mem_of_getElem? e1))) (.cons (g2.monoP (Ext.new e5)) (.cons (g4.monoP (Ext.new e5)) .nil))⟩
theorem di_zip {e e2 : Expr} {g : Env' → AH → Res (List D)} {p pos tpos : Pos} {elts : List Expr} {kk : Nat} (hg : Gl X "zip") (hm : X.mg "zip" = none) (ha : DA X Γ W [e, e2] g) (hs : starEach [e, e2] X.env = (false, eval e X.env) :: starEach [e2] X.env) (hpl : (backTo pos (starEach [e2] X.env)).any (·.1) = false) :
    DI X Γ W (.Tuple elts kk tpos) (.Call (.Name "zip" p) [e, e2] [] pos) (ivZip g) :=
  PI.imp (RZ.pi_zipA hg hm ha hs hpl) fun σ H R ⟨E, h0, n, ρ, er, hr, q⟩ => ⟨E, h0, n, ρ, er, hr, (Post.bind (R := RelTs X.w X.K Γ) q).imp fun vs H1 ⟨ds, h1, n1, ρ1, x1, hr1, rd, q1⟩ => by
    match ds, rd, q1 with
    | [], _, q1 => exact q1.elim
    | [_], _, q1 => exact q1.elim
    | _ :: _ :: _ :: _, _, q1 => exact q1.elim
    | [a, b], .cons ra (.cons rb .nil), q1 =>
      simp only [itZ] at q1
      cases e1 : frzR a h1 with
      | none => rw [e1] at q1; exact q1.elim
      | some p =>
        obtain ⟨a', h2⟩ := p
        simp only [e1] at q1
        obtain ⟨ρ2, x2, hr2, r2⟩ := frzR_ok hr1 ra e1
        cases e2 : frzR b h2 with
        | none => rw [e2] at q1; exact q1.elim
        | some p =>
          obtain ⟨b', h3⟩ := p
          simp only [e2] at q1
          obtain ⟨ρ3, x3, hr3, r3⟩ := frzR_ok hr2 (rb.mono x2) e2
          have r2 := r2.monoP x3
          have q1 := Post.mono (x2.trans x3) q1
          cases a' with
          | tup xs =>
            cases b' with
            | tup ys =>
              simp only at q1
              have hup : ∀ x ∈ xs, isUP x = false := fun p hp => by
                by_cases hc : (xs.all fun x => !isUP x) = true
                · have z := List.all_eq_true.mp hc p hp
                  simpa using z
                · rw [if_neg hc] at q1; exact q1.elim
              have hc : (xs.all fun x => !isUP x) = true := List.all_eq_true.mpr fun p hp => by rw [hup p hp]; rfl
              rw [if_pos hc] at q1
              obtain ⟨a1, vs, rfl, s1, _⟩ := RelD.tup_seq r2
              obtain ⟨b1, us, rfl, s2, _⟩ := RelD.tup_seq r3
              exact ⟨a1, b1, vs, us, rfl, .inr ⟨s1, s2, q1 _ n1 ρ3 H1 Ext.refl hr3 (itr_zipT hup r2 r3)⟩⟩
            | _ => exact q1.elim
          | lst xs =>
            cases b' with
            | lst ys =>
              simp only at q1
              have hup : ∀ x ∈ xs, isUP x = false := fun p hp => by
                by_cases hc : (xs.all fun x => !isUP x) = true
                · have z := List.all_eq_true.mp hc p hp
                  simpa using z
                · rw [if_neg hc] at q1; exact q1.elim
              have hc : (xs.all fun x => !isUP x) = true := List.all_eq_true.mpr fun p hp => by rw [hup p hp]; rfl
              rw [if_pos hc] at q1
              obtain ⟨a1, vs, rfl, s1, _⟩ := RelD.lst_seq r2
              obtain ⟨b1, us, rfl, s2, _⟩ := RelD.lst_seq r3
              exact ⟨a1, b1, vs, us, rfl, .inl ⟨s1, s2, q1 _ n1 ρ3 H1 Ext.refl hr3 (itr_zipL hup r2 r3)⟩⟩
            | _ => exact q1.elim
          | _ => cases b' <;> exact q1.elim⟩
end
end MP
set_option Elab.async false
set_option linter.all false
set_option maxRecDepth 100000
set_option maxHeartbeats 4000000
/-! MPN: built-in functions and types that are called. -/
namespace MP
open PySem PySem.Spec PyProof.Rows L2
/-- what an own class must be, so that its instances may be asked -/
structure OwnC (K : PySem.W.Frag) (C : Addr) : Prop where
  cl : Cls K C
  ha : PySem.W.findIn K (.ref C) "__class__" = some (some (.builtin "object.__class__"))
  hn : PySem.W.specialIn K (.builtin "object.__class__") "__get__" = some (some (.builtin "getset_descriptor.__get__"))
  tk : PySem.W.takesIn K (.builtin "object.__class__") = some true
  mr : PySem.W.mroIn K C (.type "object") = some true
/-- a value's class: a built-in one's name, an own one's -/
inductive Tag where
  | b (a : String)
  | o (c : Str)
def tag0 : D → Option Tag
  | .non => some (.b "NoneType")
  | .bl _ => some (.b "bool")
  | .int _ => some (.b "int")
  | .str _ => some (.b "str")
  | .tup _ => some (.b "tuple")
  | .lst _ => some (.b "list")
  | .dct _ => some (.b "dict")
  | .obj c _ => some (.o c)
  | .ref _ => none
  | .scr _ => none
def tagOf (h : AH) (d : D) : Option Tag := match d with
  | .ref i => match h[i]? with
    | some (.lst _) => some (.b "list")
    | some (.dct _) => some (.b "dict")
    | some (.ins c _) => some (.o c)
    | some (.fz d) => tag0 d
    | none => none
  | d => tag0 d
def tagV (Γ : Gm) : Tag → Value
  | .b a => .type a
  | .o c => .ref (Γ c)
section
variable {X : Cx} {Γ : Gm} {W : WX} {pins : List (Addr × Obj)} {σ : L2.St} {H : Hp} {s : Shared} {n : Nat} {ρ : Rho} {h : AH}
def BfD (X : Cx) (Γ : Gm) (f : Value) (φ : List D → AH → Option (D × AH)) : Prop :=
  ∀ (pins : List (Addr × Obj)) (s : Shared) (σ : L2.St) (H : Hp) (vs : List V) (us : List Value) (Q : VK) (h : AH) (n : Nat) (ρ : Rho) (ds : List D), Inv X pins σ H s → Vals vs us → HR X Γ n ρ H h → RDs X Γ n ρ H ds vs → PostO X Γ n ρ H (φ ds h) Q →
    wpAny (model X.prog X.w) X.A (call f us) (EP X pins σ Q) X.xe s
def evBf (φ : List D → AH → Option (D × AH)) (g : Env' → AH → Res (List D)) : Ev := fun E h => bindR (g E h) fun ds h1 => opR (φ ds h1)
def rBf (X : Cx) (Γ : Gm) (φ : List D → AH → Option (D × AH)) : List V → Hp → VK → Prop := fun vs H Q => ∃ h n ρ ds, HR X Γ n ρ H h ∧ RDs X Γ n ρ H ds vs ∧ PostO X Γ n ρ H (φ ds h) Q
theorem BfD.callR {f : Value} {φ : List D → AH → Option (D × AH)} (b : BfD X Γ f φ) : CallR X f (rBf X Γ φ) := fun pins s σ H vs us Q I rv ⟨h, n, ρ, ds, hr, rd, q⟩ => b pins s σ H vs us Q h n ρ ds I rv hr rd q
theorem bf_read {φ : List D → AH → Option (D × AH)} {g : Env' → AH → Res (List D)} {σ : L2.St} {H : Hp} {Q : VK} (h : tD X Γ W (evBf φ g) σ H Q) : tCB (rBf X Γ φ) (tDA X Γ W g) σ H Q := by
  obtain ⟨E, h, n, ρ, er, hr, q⟩ := h
  refine ⟨E, h, n, ρ, er, hr, (Post.bind (R := RelTs X.w X.K Γ) q).imp fun vs H1 ⟨ds, h1, n1, ρ1, x1, hr1, rd, q1⟩ => ⟨h1, n1, ρ1, ds, hr1, rd, ?_⟩⟩
  cases e : φ ds h1 with
  | none => rw [e] at q1; exact q1.elim
  | some p => obtain ⟨d, h2⟩ := p; rw [e] at q1; exact q1
theorem de_bf {x : Str} {id : String} {e : Expr} {es : List Expr} {p pos : Pos} {φ : List D → AH → Option (D × AH)} {g : Env' → AH → Res (List D)} (b : BfD X Γ (.builtin id) φ) (hg : Gl X x) (hm : X.mg x = none) (hv : bootBuiltins x = some (.builtin id)) (ha : DA X Γ W (e :: es) g) (hn : x ≠ "__name__") (hdb : (x == ("__debug__" : Str)) = false)
    (he : starEach (e :: es) X.env = (false, eval e X.env) :: starEach es X.env) (hpl : (backTo pos (starEach es X.env)).any (·.1) = false) : DE X Γ W (.Call (.Name x p) (e :: es) [] pos) (evBf φ g) :=
  PE.imp (pe_callB b.callR hg hm hv ha hn hdb he hpl) fun _ _ _ q => bf_read q
theorem de_ty {x : Str} {T : String} {e : Expr} {es : List Expr} {p pos : Pos} {φ : List D → AH → Option (D × AH)} {g : Env' → AH → Res (List D)} (b : BfD X Γ (.type T) φ) (hg : Gl X x) (hm : X.mg x = none) (hv : bootBuiltins x = some (.type T)) (ha : DA X Γ W (e :: es) g) (hn : x ≠ "__name__") (hdb : (x == ("__debug__" : Str)) = false)
    (he : starEach (e :: es) X.env = (false, eval e X.env) :: starEach es X.env) (hpl : (backTo pos (starEach es X.env)).any (·.1) = false) : DE X Γ W (.Call (.Name x p) (e :: es) [] pos) (evBf φ g) :=
  PE.imp (pe_callTy b.callR hg hm hv ha hn hdb he hpl) fun _ _ _ q => bf_read q
/-! ### len -/
def lenD (ds : List D) (h : AH) : Option (D × AH) := match ds with
  | [d] => match dcV h d with
    | some kvs => if decide (kvs.length ≤ sizeLine) = true then some (.int (kvs.length : Nat), h) else none
    | none => match vw h d with
      | .tup xs => some (.int (xs.length : Nat), h)
      | .lst xs => some (.int (xs.length : Nat), h)
      | .str x => if decide (x.length ≤ sizeLine) = true then some (.int (x.length : Nat), h) else none
      | _ => none
  | _ => none
/-- len(x), by what its __len__ gives -/
theorem len_by {prog : Program} {w : World} {A : Around} {E : Value → Shared → Prop} {s : Shared} {x : Value} {Q : Value → Shared → Prop}
    (h : wpAny (model prog w) A.in1 (callSpecial? x (Str.ofString "__len__")) (fun r s' => ∃ n u, r = some (.int n u) ∧ 0 ≤ n ∧ n < 2 ^ 63 ∧ Q (.int n s'.toks) { s' with toks := s'.toks + 1 }) E s) : wpAny (model prog w) A (call (.builtin "len") [x]) Q E s := by
  refine Calls.call_function_entry kind_len plain_len entry_len (args_len1 _) ?_
  unfold Builtin.«len»
  refine wpAny_bind (m := oneArg "len" _) (wpAny_pure (wpAny_bind (m := callSpecial? x (Str.ofString "__len__")) (wpAny_mono h (fun r s' hr => ?_) fun _ _ y => y)))
  obtain ⟨n, u, rfl, h0, h1, hq⟩ := hr
  refine wpAny_bind (wpAny_holding (wpAny_pure (wpAny_bind (wpAny_letGo ?_))))
  show wpAny _ _ (if n < 0 then _ else (if n ≥ 2 ^ 63 then _ else _)) _ _ _
  rw [if_neg (by omega), if_neg (by omega)]
  exact wpAny_bind (wpAny_mkInt (wpAny_pure ⟨_, rfl, hq⟩))
theorem len_raw {prog : Program} {w : World} {A : Around} {E : Value → Shared → Prop} {s : Shared} {d : Addr} {es : Array DictEntry} {ep : Nat} {Q : Value → Shared → Prop} (hs : (d == sysModules) = false) (hm : s.heap.DictRaw d es ep) (hz : es.size ≤ sizeLine) (h : Q (.int es.size (s.toks + 1)) { s with toks := s.toks + 1 + 1 }) :
    wpAny (model prog w) A (call (.builtin "len") [.ref d]) Q E s := by
  have hl := line63
  exact len_by (wpAny_callSpecial?_slot (name := Str.ofString "__len__") hm.typeIs F.slot_dict_len (call_len_raw hs hm ⟨_, _, rfl, by omega, by omega, h⟩))
theorem bf_len : BfD X Γ (.builtin "len") lenD := by
  intro pins s σ H vs us Q h n ρ ds I rv hr rd q
  match ds, rd, rv, q with
  | [], _, _, q => exact q.elim
  | _ :: _ :: _, _, _, q => exact q.elim
  | [d], .cons (v := v) r .nil, .cons r1 .nil, q =>
    simp only [lenD] at q
    cases e : dcV h d with
    | some kvs =>
      simp only [e] at q
      by_cases hc : decide (kvs.length ≤ sizeLine) = true
      · rw [if_pos hc] at q
        obtain ⟨a, o, es, ep, rfl, da⟩ := dcV_at I hr r e
        cases r1
        have hl : es.size = kvs.length := by rw [← Array.length_toList, da.rel.length]
        exact len_raw da.sys ⟨o, da.get, da.ex, da.dat⟩ (by rw [hl]; exact of_decide_eq_true hc) ⟨.int (kvs.length : Nat), H, I.tok _, ⟨_, by rw [hl]⟩, q _ n ρ H Ext.refl hr (.int _)⟩
      · rw [if_neg hc] at q; exact q.elim
    | none =>
      simp only [e] at q
      cases e2 : vw h d with
      | tup xs =>
        rw [e2] at q
        obtain ⟨a, ws, rfl, hs, rs⟩ := RelD.tup_seq (vw_tup hr r e2)
        exact call_len pins s σ H _ _ Q I (.cons r1 .nil) ⟨.ref a, xs.length, rfl, .inr ⟨ws, hs, rs.length⟩, q _ n ρ H Ext.refl hr (.int _)⟩
      | lst xs =>
        rw [e2] at q
        obtain ⟨a, ws, rfl, hs, rs⟩ := vw_seq hr r e2
        exact call_len pins s σ H _ _ Q I (.cons r1 .nil) ⟨.ref a, xs.length, rfl, .inl ⟨ws, hs, rs.length⟩, q _ n ρ H Ext.refl hr (.int _)⟩
      | str z =>
        simp only [e2] at q
        by_cases hc : decide (z.length ≤ sizeLine) = true
        · rw [if_pos hc] at q
          have r0 := vw_str hr r e2
          cases r0
          exact call_len pins s σ H _ _ Q I (.cons r1 .nil) ⟨.str z, z.length, rfl, ⟨of_decide_eq_true hc, rfl⟩, q _ n ρ H Ext.refl hr (.int _)⟩
        · rw [if_neg hc] at q; exact q.elim
      | _ => rw [e2] at q; exact q.elim
/-! ### isinstance -/
theorem kitx_tag {d : D} {t : Tag} {x : V} {u : Value} (oc : ∀ c : Str, t = .o c → OwnC X.K (Γ c)) (I : Inv X pins σ H s) (hr : HR X Γ n ρ H h) (r : RD X Γ n ρ H d x) (rv : RelV x u) (e : tagOf h d = some t) :
    ∃ P : Heap → Prop, PySem.W.KitX X.K u (tagV Γ t) P ∧ P s.heap ∧ u ≠ .builtin "__main__.__loader__#opaque" := by
  have ins : ∀ {a dx : Addr} {c : Str} {fvs : List (Str × V)}, H a = some (.ins (Γ c) dx fvs) → t = .o c → RelV (.ref a) u → ∃ P : Heap → Prop, PySem.W.KitX X.K u (tagV Γ t) P ∧ P s.heap ∧ u ≠ .builtin "__main__.__loader__#opaque" := fun {a dx c fvs} hi ht ru => by
    have o := oc c ht
    subst ht
    exact kit_of I ru (.base (.ins hi o.cl o.ha o.hn o.tk o.mr))
  have val : ∀ {d : D} {m : Nat} {y : V}, RelD X.w X.K Γ n ρ H m d y → tag0 d = some t → RelV y u → ∃ P : Heap → Prop, PySem.W.KitX X.K u (tagV Γ t) P ∧ P s.heap ∧ u ≠ .builtin "__main__.__loader__#opaque" := fun {d m y} rr et ru => by
    cases rr with
    | non => cases et; exact kit_of I ru (.base .non)
    | bl b => cases et; exact kit_of I ru (.base (.bl b))
    | int i => cases et; exact kit_of I ru (.base (.int i))
    | str z => cases et; exact kit_of I ru (.base (.str z))
    | tup h1 f _ r => cases et; exact kit_of I ru (.base (.tup h1))
    | tupZ h1 z f r => cases et; exact kit_of I ru (.fTuple h1)
    | tupK a b _ c e v r => cases et; exact kit_of I ru (.kTuple a b)
    | lst h1 f r => cases et; exact kit_of I ru (.base (.lst h1))
    | dct h1 f a b c nd r => cases et; cases ru; exact ⟨_, PySem.W.kitx_dict, ⟨_, hd_get I h1, a.1⟩, fun z => nomatch z⟩
    | dctK h1 a b c nd r => cases et; cases ru; exact ⟨_, PySem.W.kitx_dict, ⟨_, I.kIn _ _ h1, a.1⟩, fun z => nomatch z⟩
    | obj h1 f k r => cases et; exact ins h1 rfl ru
    | ref h => cases et
    | scr h => cases et
  cases d with
  | ref i =>
    simp only [tagOf] at e
    cases r with
    | ref hi =>
      cases q : h[i]? with
      | none => rw [q] at e; cases e
      | some o =>
        rw [q] at e
        have z := hr.at_ i o q
        cases o with
        | lst xs => cases e; obtain ⟨_, vs, h1, _⟩ := z; exact kit_of I rv (.base (.lst h1))
        | dct kvs => cases e; obtain ⟨_, o, es, ep, h1, h2, _⟩ := z; cases rv; exact ⟨_, PySem.W.kitx_dict, ⟨_, hd_get I h1, h2.1⟩, fun z => nomatch z⟩
        | ins c fs => cases e; obtain ⟨_, _, dx, fvs, h1, _⟩ := z; exact ins h1 rfl rv
        | fz d => exact val z.2.2 e rv
  | _ => exact val r e rv
/-- isinstance(e, C) -/
def isiR (isa : Tag → Option Bool) (d : D) (h : AH) : Res D := match tagOf h d with
  | some t => match isa t with
    | some b => okR (.bl b) h
    | none => none
  | none => none
def evIsi (isa : Tag → Option Bool) (f : Ev) : Ev := fun E h => bindR (f E h) (isiR isa)
/-- what is known of a class that is asked for -/
structure IsaOk (X : Cx) (Γ : Gm) (u : Value) (isa : Tag → Option Bool) : Prop where
  own : ∀ (c : Str) (b : Bool), isa (.o c) = some b → OwnC X.K (Γ c)
  kit : ∀ (t : Tag) (b : Bool), isa t = some b → PySem.W.kitOne X.K (tagV Γ t) u = some b
def isiQ (X : Cx) (Γ : Gm) (W : WX) (σ : L2.St) (isa : Tag → Option Bool) (cv : V) (Q : VK) : List V → Hp → Prop := fun vs H1 => ∃ d h1 n1 ρ1 x, vs = [x, cv] ∧ HR X Γ n1 ρ1 H1 h1 ∧ RD X Γ n1 ρ1 H1 d x ∧ PostE X Γ n1 ρ1 H1 (fun c d H' => W c d σ H') (isiR isa d h1) Q
theorem de_isi {e c : Expr} {p pos : Pos} {f : Ev} {isa : Tag → Option Bool} {cv : V} {u : Value} (ok : IsaOk X Γ u isa) (hcu : ClsV cv u) (hg : Gl X "isinstance") (hm : X.mg "isinstance" = none) (he : DE X Γ W e f) (hc : PE X c (tC cv))
    (hs1 : starEach [e, c] X.env = (false, eval e X.env) :: starEach [c] X.env) (hs2 : starEach [c] X.env = (false, eval c X.env) :: starEach [] X.env) (hpl : (backTo pos (starEach [c] X.env)).any (·.1) = false) :
    DE X Γ W (.Call (.Name "isinstance" p) [e, c] [] pos) (evIsi isa f) := by
  refine ⟨fun pins s σ H Q I ⟨E, h, n, ρ, er, hr, q⟩ => ?_⟩
  refine wpAny_Call_Name_kw (ld_blt I hg hm PyProof.Rows.boot_isinstance ?_ (by decide) (by decide))
  have ha : PA X [e, c] (tCons (tD X Γ W f) (tCons (tC cv) tNil)) := pa_cons he (pa_cons hc pa_nil hs2) hs1
  have rq : tCons (tD X Γ W f) (tCons (tC cv) tNil) σ H (isiQ X Γ W σ isa cv Q) := by
    refine ⟨E, h, n, ρ, er, hr, (Post.bind (R := RelT X.w X.K Γ) q).imp fun x H1 z => ?_⟩
    obtain ⟨d, h1, n1, ρ1, x1, hr1, rd, q1⟩ := z
    exact ⟨d, h1, n1, ρ1, x, rfl, hr1, rd, q1⟩
  refine PyProof.Rows.callWith_builtin1 (thn (ha.run pos pins s σ H _ I rq) fun us s1 z => ?_) hs1 hpl
  obtain ⟨vs, H1, I1, r1, d, h1, n1, ρ1, x, ev, hr1, rd, q1⟩ := z
  subst ev
  cases r1 with
  | cons rx rr =>
    rename_i v us'
    cases rr with
    | cons rc rr =>
      rename_i w' us''
      cases rr
      have ew := hcu.eq rc
      subst ew
      unfold isiR at q1
      cases e1 : tagOf h1 d with
      | none => rw [e1] at q1; exact q1.elim
      | some t =>
        simp only [e1] at q1
        cases e2 : isa t with
        | none => rw [e2] at q1; exact q1.elim
        | some b =>
          rw [e2] at q1
          obtain ⟨P, k1, k2, k3⟩ := kitx_tag (t := t) (fun c z => ok.own c b (by rw [← z]; exact e2)) I1 hr1 rd rx e1
          refine PySem.W.kia_one k1 I1.kIn k2 (ok.kit t b e2) k3 fun tk => ?_
          exact ⟨.bl b, H1, I1.tok _, rfl, q1.okR hr1 (.bl _)⟩
end
end MP
set_option Elab.async false
set_option linter.all false
set_option maxRecDepth 100000
set_option maxHeartbeats 4000000
/-! MPO: all, any, list, tuple. -/
namespace MP
open PySem PySem.Spec PyProof.Rows L2
section
variable {X : Cx} {Γ : Gm} {W : WX} {pins : List (Addr × Obj)} {σ : L2.St} {H : Hp} {s : Shared} {n : Nat} {ρ : Rho} {h : AH}
/-- a list of bools -/
def boolsOf : List D → Option (List Bool)
  | [] => some []
  | d :: ds => match d with
    | .bl b => match boolsOf ds with
      | some bs => some (b :: bs)
      | none => none
    | _ => none
theorem bools_reads : ∀ {ds : List D} {bs : List Bool} {vs : List V} {us : List Value}, boolsOf ds = some bs → RDs0 X Γ n ρ H ds vs → Vals vs us → ReadsAll s.heap us (bs.map PyData.bool) []
  | [], _, _, _, e, .nil, .nil => by cases e; exact .nil
  | d :: ds, bs, _, _, e, .cons r t, .cons rv tv => by
    cases d with
    | bl b =>
      simp only [boolsOf] at e
      cases e1 : boolsOf ds with
      | none => rw [e1] at e; cases e
      | some cs =>
        rw [e1] at e
        cases e
        cases r
        cases rv
        exact .cons (as := []) (bs := []) (.bool b) (bools_reads e1 t tv)
    | _ => simp [boolsOf] at e
theorem bools_plain : ∀ bs : List Bool, PyData.plainAll (bs.map PyData.bool) = true
  | [] => rfl
  | b :: bs => by rw [List.map_cons, PyData.plainAll, bools_plain bs]; rfl
theorem bools_all : ∀ bs : List Bool, (bs.map PyData.bool).all PyData.truthy = bs.all id
  | [] => rfl
  | b :: bs => by rw [List.map_cons, List.all_cons, List.all_cons, bools_all bs]; rfl
theorem bools_any : ∀ bs : List Bool, (bs.map PyData.bool).any PyData.truthy = bs.any id
  | [] => rfl
  | b :: bs => by rw [List.map_cons, List.any_cons, List.any_cons, bools_any bs]; rfl
def allD (ds : List D) (h : AH) : Option (D × AH) := match ds with
  | [d] => match d with
    | .lst xs => match boolsOf xs with
      | some bs => some (.bl (bs.all id), h)
      | none => none
    | _ => none
  | _ => none
def anyD (ds : List D) (h : AH) : Option (D × AH) := match ds with
  | [d] => match d with
    | .lst xs => match boolsOf xs with
      | some bs => some (.bl (bs.any id), h)
      | none => none
    | _ => none
  | _ => none
theorem fits_bools {bs : List Bool} : ∀ x ∈ bs.map PyData.bool, x.fits63 := fun x hx => by
  obtain ⟨b, _, rfl⟩ := List.mem_map.mp hx
  trivial
theorem bf_all (hc : X.calm = true) : BfD X Γ (.builtin "all") allD := by
  intro pins s σ H vs us Q h n ρ ds I rv hr rd q
  match ds, rd, rv, q with
  | [], _, _, q => exact q.elim
  | _ :: _ :: _, _, _, q => exact q.elim
  | [d], .cons r .nil, .cons r1 .nil, q =>
    cases d with
    | lst xs =>
      simp only [allD] at q
      cases e : boolsOf xs with
      | none => rw [e] at q; exact q.elim
      | some bs =>
        simp only [e] at q
        obtain ⟨a, ws, rfl, hs, rs⟩ := RelD.lst_seq r
        cases r1
        obtain ⟨its, rv, pl, hz⟩ := I.list hs
        refine PySem.W.all_list_data (I.ok.hd hc) pl.isList (bools_reads e rs (by simpa using rv)) (bools_plain bs) fits_bools fun h' tk hk => ?_
        rw [bools_all]
        exact ⟨.bl _, H, I.kept (t' := tk) hk, rfl, q _ n ρ H Ext.refl hr (.bl _)⟩
    | _ => exact q.elim
theorem bf_any (hc : X.calm = true) : BfD X Γ (.builtin "any") anyD := by
  intro pins s σ H vs us Q h n ρ ds I rv hr rd q
  match ds, rd, rv, q with
  | [], _, _, q => exact q.elim
  | _ :: _ :: _, _, _, q => exact q.elim
  | [d], .cons r .nil, .cons r1 .nil, q =>
    cases d with
    | lst xs =>
      simp only [anyD] at q
      cases e : boolsOf xs with
      | none => rw [e] at q; exact q.elim
      | some bs =>
        simp only [e] at q
        obtain ⟨a, ws, rfl, hs, rs⟩ := RelD.lst_seq r
        cases r1
        obtain ⟨its, rv, pl, hz⟩ := I.list hs
        refine PySem.W.any_list_data (I.ok.hd hc) pl.isList (bools_reads e rs (by simpa using rv)) (bools_plain bs) fits_bools fun h' tk hk => ?_
        rw [bools_any]
        exact ⟨.bl _, H, I.kept (t' := tk) hk, rfl, q _ n ρ H Ext.refl hr (.bl _)⟩
    | _ => exact q.elim
/-! ### list(e), tuple(e) of a sequence -/
def lstD (ds : List D) (h : AH) : Option (D × AH) := match ds with
  | [d] => match vw h d with
    | .tup xs => some (.lst xs, h)
    | .lst xs => some (.lst xs, h)
    | _ => none
  | _ => none
theorem bf_lst : BfD X Γ (.type "list") lstD := by
  intro pins s σ H vs us Q h n ρ ds I rv hr rd q
  match ds, rd, rv, q with
  | [], _, _, q => exact q.elim
  | _ :: _ :: _, _, _, q => exact q.elim
  | [d], .cons r .nil, .cons r1 .nil, q =>
    simp only [lstD] at q
    cases e2 : vw h d with
    | tup xs =>
      rw [e2] at q
      obtain ⟨a, ws, rfl, hs, rs⟩ := RelD.tup_seq (vw_tup hr r e2)
      exact call_list_of pins s σ H _ _ Q I (.cons r1 .nil) ⟨a, ws, rfl, .inr hs, fun l hl => postLst hr rs hl q⟩
    | lst xs =>
      rw [e2] at q
      obtain ⟨a, ws, rfl, hs, rs⟩ := vw_seq hr r e2
      exact call_list_of pins s σ H _ _ Q I (.cons r1 .nil) ⟨a, ws, rfl, .inl hs, fun l hl => postLst hr rs hl q⟩
    | _ => rw [e2] at q; exact q.elim
def tupD (ds : List D) (h : AH) : Option (D × AH) := match ds with
  | [d] => match vw h d with
    | .tup xs => some (.tup xs, h)
    | .lst xs => some (.tup xs, h)
    | _ => none
  | _ => none
theorem bf_tup : BfD X Γ (.type "tuple") tupD := by
  intro pins s σ H vs us Q h n ρ ds I rv hr rd q
  match ds, rd, rv, q with
  | [], _, _, q => exact q.elim
  | _ :: _ :: _, _, _, q => exact q.elim
  | [d], .cons r .nil, .cons r1 .nil, q =>
    simp only [tupD] at q
    cases e2 : vw h d with
    | tup xs =>
      rw [e2] at q
      have r0 := vw_tup hr r e2
      obtain ⟨a, ws, rfl, hs, rs⟩ := RelD.tup_seq r0
      exact rl_tuple pins s σ H _ _ Q I r1 (.inr ⟨a, ws, rfl, hs, q _ n ρ H Ext.refl hr r0.up⟩)
    | lst xs =>
      rw [e2] at q
      obtain ⟨a, ws, rfl, hs, rs⟩ := vw_seq hr r e2
      cases r1
      obtain ⟨its, rvv, pl, hz⟩ := I.list hs
      refine call_tuple_list pl.isList (fun h' hk => ?_) (by rw [List.size_toArray, ← rvv.length]; exact hz)
      have I1 : Inv X pins σ H { s with heap := h' } := I.kept (t' := s.toks) hk
      exact ⟨.ref h'.objs.size, _, inv_tup (tk := s.toks) I1 rvv hz, rfl, post_tup hr rs (I1.hok.fresh (Nat.le_refl _)) q⟩
    | _ => rw [e2] at q; exact q.elim
end
end MP
set_option Elab.async false
set_option linter.all false
set_option maxRecDepth 100000
set_option maxHeartbeats 4000000
/-! MPP: own functions. A call sees nothing of what its caller may change. -/
namespace MP
open PySem PySem.Spec PyProof.Rows L2
section
variable {w : World} {K : PySem.W.Frag} {Γ : Gm} {n n' : Nat} {ρ ρ' : Rho} {H H' : Hp}
mutual
theorem RelD.keep0 (k : ∀ b o, H b = some o → Free n ρ b → NTb o → H' b = some o ∧ Free n' ρ' b) : ∀ {d : D} {v : V}, RelD w K Γ n ρ H 0 d v → RelD w K Γ n' ρ' H' 0 d v
  | _, _, .non => .non
  | _, _, .bl b => .bl b
  | _, _, .int i => .int i
  | _, _, .str s => .str s
  | _, _, .tup h f z r => let ⟨h1, f1⟩ := k _ _ h f (fun _ z => by cases z); .tup h1 f1 z (RelDs.keep0 k r)
  | _, _, .tupZ h z f r => let ⟨h1, f1⟩ := k _ _ h f (fun _ z => by cases z); .tupZ h1 z f1 (RelDs.keep0 k r)
  | _, _, .tupK a b d c e v r => .tupK a b d c e v (RelDs.keep0 k r)
  | _, _, .lst h f r => let ⟨h1, f1⟩ := k _ _ h f (fun _ z => by cases z); .lst h1 f1 (RelDs.keep0 k r)
  | _, _, .dct h f a b c nd r => let ⟨h1, f1⟩ := k _ _ h f (fun _ z => by cases z); .dct h1 f1 a b c nd (RelKs.keep0 k r)
  | _, _, .dctK h a b c nd r => .dctK h a b c nd (RelKs.keep0 k r)
  | _, _, .obj h f g r => let ⟨h1, f1⟩ := k _ _ h f (fun _ z => by cases z); .obj h1 f1 g (RelFs.keep0 k r)
  | _, _, .ref h => absurd h (Nat.not_lt_zero _)
  | _, _, .scr h => .scr (h.keep k)
theorem RelDs.keep0 (k : ∀ b o, H b = some o → Free n ρ b → NTb o → H' b = some o ∧ Free n' ρ' b) : ∀ {ds : List D} {vs : List V}, RelDs w K Γ n ρ H 0 ds vs → RelDs w K Γ n' ρ' H' 0 ds vs
  | _, _, .nil => .nil
  | _, _, .cons r t => .cons (RelD.keep0 k r) (RelDs.keep0 k t)
theorem RelFs.keep0 (k : ∀ b o, H b = some o → Free n ρ b → NTb o → H' b = some o ∧ Free n' ρ' b) : ∀ {ds : List (Str × D)} {vs : List (Str × V)}, RelFs w K Γ n ρ H 0 ds vs → RelFs w K Γ n' ρ' H' 0 ds vs
  | _, _, .nil => .nil
  | _, _, .cons r t => .cons (RelD.keep0 k r) (RelFs.keep0 k t)
theorem RelKs.keep0 (k : ∀ b o, H b = some o → Free n ρ b → NTb o → H' b = some o ∧ Free n' ρ' b) : ∀ {ds : List (D × D)} {vs : List DictEntry}, RelKs w K Γ n ρ H ds vs → RelKs w K Γ n' ρ' H' ds vs
  | _, _, .nil => .nil
  | _, _, .cons r a b c r' d t => .cons (RelD.keep0 k r) a b c (RelD.keep0 k r') d (RelKs.keep0 k t)
end
/-- an exception with values as its fields -/
def XR0 (w : World) (K : PySem.W.Frag) (Γ : Gm) (ρ : Rho) (H : Hp) (c : Str) (fs : List (Str × D)) (cls : Value) (dd : Option Addr) : Prop :=
  cls = .ref (Γ c) ∧ ((fs = [] ∧ dd = none) ∨ ∃ a fvs, dd = some a ∧ H a = some (.xd fvs) ∧ Free 0 ρ a ∧ RelFs w K Γ 0 ρ H 0 fs fvs)
/-- what an own function gives, by the values handed in -/
abbrev Fn := List D → Option (Out D)
def PostP (w : World) (K : PySem.W.Frag) (Γ : Gm) (ρ : Rho) (H : Hp) (E : XK) (r : Option (Out D)) (Q : VK) : Prop := match r with
  | none => False
  | some (.ok d) => ∀ v H', Ext 0 ρ H 0 ρ H' → TabF Γ.T 0 ρ H' → RelD w K Γ 0 ρ H' 0 d v → Q v H'
  | some (.exc c fs) => ∀ cls dd H', Ext 0 ρ H 0 ρ H' → TabF Γ.T 0 ρ H' → XR0 w K Γ ρ H' c fs cls dd → E cls dd H'
/-- the promise of a function -/
def spP (w : World) (K : PySem.W.Frag) (Γ : Gm) (ar : Nat) (φ : Fn) : Sp := fun vs H Q E => vs.length = ar ∧ ∃ ds ρ, (∀ b, ρ.ban b → ∃ u, H b = some u) ∧ TabF Γ.T 0 ρ H ∧ RelDs w K Γ 0 ρ H 0 ds vs ∧ PostP w K Γ ρ H E (φ ds) Q
/-- as a caller bans what it may change -/
def lend (n : Nat) (ρ : Rho) : Rho := { ρ with ban := fun b => ρ.ban b ∨ ∃ i, i < n ∧ ¬ ρ.fz i ∧ b = ρ.to i }
theorem lend_free {b : Addr} : Free 0 (lend n ρ) b ↔ Free n ρ b := by
  refine ⟨fun f => ⟨fun z => f.1 (.inl z), fun i hi hz e => f.1 (.inr ⟨i, hi, hz, e⟩)⟩, fun f => ⟨fun z => ?_, fun i hi => absurd hi (Nat.not_lt_zero _)⟩⟩
  rcases z with z | ⟨i, hi, hz, e⟩
  · exact f.1 z
  · exact f.2 i hi hz e
theorem lend_live {h : AH} (hr : HRel w K Γ n ρ H h) : ∀ b, (lend n ρ).ban b → ∃ u, H b = some u := fun b z => by
  rcases z with z | ⟨i, hi, _, e⟩
  · exact hr.live b z
  · rw [e]; exact hr.there hi
/-- behind the call -/
theorem lend_ext (x : Ext 0 (lend n ρ) H 0 (lend n ρ) H') : Ext n ρ H n ρ H' :=
  ⟨⟨Nat.le_refl _, fun _ _ => rfl, fun b o h f t => ⟨(x.keep b o h (lend_free.mpr f) t).1, f⟩⟩, fun _ z => z, fun b o z h => x.bkeep b o (.inl z) h⟩
theorem lend_tab (t : TabF Γ.T n ρ H) : TabF Γ.T 0 (lend n ρ) H := t.keep fun b o hb f => ⟨hb, lend_free.mpr f⟩
theorem lend_back {h : AH} (hr : HRel w K Γ n ρ H h) (x : Ext 0 (lend n ρ) H 0 (lend n ρ) H') (t : TabF Γ.T 0 (lend n ρ) H') : HRel w K Γ n ρ H' h := by
  have x' := lend_ext x
  refine ⟨hr.len, hr.inj, hr.nb, fun b z => ?_, fun i o e => ?_, t.keep fun b o hb f => ⟨hb, lend_free.mp f⟩⟩
  · obtain ⟨u, hu⟩ := hr.live b z
    exact ⟨u, x'.bkeep b u z hu⟩
  · have hi : i < n := by rw [← hr.len]; exact (List.getElem?_eq_some_iff.mp e).1
    refine ORel.mono x'.toExt0 Iff.rfl (fun u hu => ?_) (hr.at_ i o e)
    by_cases hz : ρ.fz i
    · exact (x'.keep _ _ hu ⟨hr.nb i hi, fun j hj hj2 e2 => hj2 ((hr.inj i j hi hj e2) ▸ hz)⟩ ((hr.at_ i o e).ntb hu)).1
    · exact x.bkeep _ _ (.inr ⟨i, hi, hz, rfl⟩) hu
end
section
variable {X : Cx} {Γ : Gm} {W : WX} {pins : List (Addr × Obj)} {σ : L2.St} {H : Hp} {s : Shared} {n : Nat} {ρ : Rho} {h : AH} {E : Env'}
/-- the arguments are given away -/
def frzs : List D → AH → Option (List D × AH)
  | [], h => some ([], h)
  | d :: ds, h => match frzR d h with
    | some (d', h1) => match frzs ds h1 with
      | some (ds', h2) => some (d' :: ds', h2)
      | none => none
    | none => none
theorem frzs_ok : ∀ {ds ds' : List D} {vs : List V} {h h' : AH} {ρ : Rho}, HR X Γ n ρ H h → RDs X Γ n ρ H ds vs → frzs ds h = some (ds', h') → ∃ ρ', Ext n ρ H n ρ' H ∧ HR X Γ n ρ' H h' ∧ RDs0 X Γ n ρ' H ds' vs
  | [], _, _, h, _, ρ, hr, .nil, e => by cases e; exact ⟨ρ, Ext.refl, hr, .nil⟩
  | d :: ds, ds', _, h, h', ρ, hr, .cons r t, e => by
    unfold frzs at e
    cases e1 : frzR d h with
    | none => rw [e1] at e; cases e
    | some p =>
      obtain ⟨d', h1⟩ := p
      simp only [e1] at e
      obtain ⟨ρ1, x1, hr1, r1⟩ := frzR_ok hr r e1
      cases e2 : frzs ds h1 with
      | none => rw [e2] at e; cases e
      | some p =>
        obtain ⟨ds2, h2⟩ := p
        rw [e2] at e
        cases e
        obtain ⟨ρ2, x2, hr2, r2⟩ := frzs_ok hr1 (t.mono x1) e2
        exact ⟨ρ2, x1.trans x2, hr2, .cons (r1.monoP x2) r2⟩
/-- a call of φ -/
def callP (φ : Fn) (dfl : List D) (ds : List D) (h : AH) : Res D := match frzs ds h with
  | some (ds', h1) => match φ (ds' ++ dfl) with
    | some (.ok d) => some (.ok d, h1)
    | some (.exc c fs) => some (.exc c fs, h1)
    | none => none
  | none => none
theorem callP_ok {φ : Fn} {ar : Nat} {dfl ds : List D} {dvs vs : List V} {Q : VK} (hl : (vs ++ dvs).length = ar) (hd : ∀ ρ H, RelDs X.w X.K Γ 0 ρ H 0 dfl dvs) (hr : HR X Γ n ρ H h) (rd : RDs X Γ n ρ H ds vs) (q : PostE X Γ n ρ H (fun c d H' => W c d σ H') (callP φ dfl ds h) Q) :
    spP X.w X.K Γ ar φ (vs ++ dvs) H Q (WE W σ) := by
  unfold callP at q
  cases e : frzs ds h with
  | none => rw [e] at q; exact q.elim
  | some p =>
    obtain ⟨ds', h1⟩ := p
    simp only [e] at q
    obtain ⟨ρ1, x1, hr1, r1⟩ := frzs_ok hr rd e
    have r2 : RelDs X.w X.K Γ 0 (lend n ρ1) H 0 ds' vs := r1.keep0 fun b o hb f _ => ⟨hb, lend_free.mpr f⟩
    refine ⟨hl, ds' ++ dfl, lend n ρ1, lend_live hr1, lend_tab hr1.tab, r2.append (hd _ _), ?_⟩
    cases e2 : φ (ds' ++ dfl) with
    | none => rw [e2] at q; exact q.elim
    | some r =>
      rw [e2] at q
      have back : ∀ {H' : Hp}, ∀ b o, H' b = some o → Free 0 (lend n ρ1) b → NTb o → H' b = some o ∧ Free n ρ1 b := fun b o hb f _ => ⟨hb, lend_free.mp f⟩
      cases r with
      | ok d => exact fun v H' x t rv => q v n ρ1 H' (x1.trans (lend_ext x)) (lend_back hr1 x t) (rv.keep0 back).up
      | exc c fs =>
        refine fun cls dd H' x t xr => q cls dd n ρ1 H' (x1.trans (lend_ext x)) (lend_back hr1 x t) ⟨xr.1, ?_⟩
        rcases xr.2 with z | ⟨a, fvs, z1, z2, z3, z4⟩
        · exact .inl z
        · exact .inr ⟨a, fvs, z1, z2, lend_free.mp z3, z4.keep0 back⟩
def evCall (φ : Fn) (dfl : List D) (g : Env' → AH → Res (List D)) : Ev := fun E h => bindR (g E h) (callP φ dfl)
theorem len_of_sp {φ : Fn} {ar : Nat} : ∀ vs H Q E, spP X.w X.K Γ ar φ vs H Q E → vs.length = ar := fun vs H Q E h => h.1
/-- f(e, ..) -/
theorem de_call {x : Str} {p pos : Pos} {e : Expr} {es : List Expr} {φ : Fn} {ps : List Str} {dfl : List D} {dvs : List V} {dus : List Value} {g : Env' → AH → Res (List D)} {k : Nat} {f : Addr} {fd : FuncData} (tk : Takes X W) (F : FnOk X.prog X.w X.K X.mg X.base (L2.CX X.prog X.w) k f fd ps (spP X.w X.K Γ ps.length φ)) (hr : Room k X.A) (hg : Gl X x) (hm : X.mg x = some (.ref f)) (hk : PySem.W.keepIn X.K (.ref f) = true)
    (hb : Binds X.K fd ps dus) (hdv : Vals dvs dus) (hd : ∀ ρ H, RelDs X.w X.K Γ 0 ρ H 0 dfl dvs) (na : (e :: es).length + dvs.length = ps.length) (ha : DA X Γ W (e :: es) g) (hlen : ∀ E h ds h', g E h = some (.ok ds, h') → ds.length = (e :: es).length) (hdb : (x == ("__debug__" : Str)) = false)
    (he : starEach (e :: es) X.env = (false, eval e X.env) :: starEach es X.env) (hpl : (backTo pos (starEach es X.env)).any (·.1) = false) : DE X Γ W (.Call (.Name x p) (e :: es) [] pos) (evCall φ dfl g) :=
  PE.imp (pe_callSD F hr hg hm hk hb hdv (E := WE W) (fun σ => passAt tk σ) ha hdb he hpl) fun σ H Q ⟨E, h, n, ρ, er, hr, q⟩ => ⟨E, h, n, ρ, er, hr, by
    have q' := Post.bind (R := RelTs X.w X.K Γ) q
    refine q'.imp' fun vs ds h' n1 ρ1 H1 eq x1 hr1 rd ⟨ds1, h1, n2, ρ2, x2, hr2, rd2, q2⟩ => ?_
    have hl : ds1.length = vs.length := rd2.length
    have hl2 := hlen _ _ _ _ eq
    exact callP_ok (by rw [List.length_append, ← rd.length, hl2]; exact na) hd hr2 rd2 q2⟩
/-- how a body ends -/
def finS (r : SRes) : Option (Out D) := match r with
  | some (.ret d, h) => match frzR d h with
    | some (d', _) => some (.ok d')
    | none => none
  | some (.next _, _) => some (.ok .non)
  | some (.exc _ c fs, _) => some (.exc c fs)
  | _ => none
def startE (m : Nat) (ds : List D) : Env' := ds.map some ++ List.replicate (m - ds.length) none
def runF (m : Nat) (body : Sv) : Fn := fun ds => finS (body (startE m ds) [])
theorem start_rel {N : List Str} {ds : List D} {vs : List V} (r : RelDs X.w X.K Γ n ρ H n ds vs) : EnvR X Γ n ρ H (startE N.length ds) (start N vs) := by
  refine ⟨by simp [startE, L2.start, r.length], fun i d e => ?_⟩
  unfold startE at e
  unfold L2.start
  by_cases hi : i < ds.length
  · rw [List.getElem?_append_left (by simpa using hi), List.getElem?_map] at e
    rw [List.getElem?_append_left (by rw [List.length_map, ← r.length]; exact hi), List.getElem?_map]
    cases e1 : ds[i]? with
    | none => rw [e1] at e; cases e
    | some d' =>
      rw [e1] at e
      have e2 : d' = d := Option.some.inj (Option.some.inj e)
      subst e2
      obtain ⟨v, g1, g2⟩ := r.get e1
      exact ⟨v, by rw [g1]; rfl, g2⟩
  · rw [List.getElem?_append_right (by simpa using Nat.le_of_not_lt hi)] at e
    rw [List.getElem?_replicate] at e
    split at e <;> cases e
theorem okC {P : Program} {w : World} {K : PySem.W.Frag} {mg : Str → Option Value} {base : Heap} {x qual : Str} {params : Arguments} {body : List Stmt} {scope : Scope} {dvs : List V} {kws : List (Str × V)} {f : Addr} {fd : FuncData} {CX : CXT} {N ps : List Str} {k : Nat} {sp : Sp} (F : FunD K x qual params body scope dvs kws f fd) (S : FnScope N ps scope) (len : ∀ vs H Q E, sp vs H Q E → vs.length = ps.length)
    (hbody : ∀ (cdv : Value) (A : Around) (outer : List Env) (s : Shared) (H : Hp) (vs : List V) (Q : VK) (E : XK), cdv = fd.code → Room k (A.deeper (envOfC qual scope s.heap.objs.size f cdv)) → sp vs H Q E →
      ∃ t, PSs (cxOf CX P w K mg base N qual scope f cdv A outer s H E) body t ∧ t { nx := fun _ H' => Q .non H', rt := Q } (start N vs) H) : FnOk P w K mg base CX (k + 1) f fd ps sp := by
  obtain ⟨oc, od, dV, kV, doc, pm, an, cdv, ct, osl, rfl, lk, hcd, _, _⟩ := F.ex
  exact fn_of lk hcd S len fun A outer s H vs Q E hr hsp => hbody cdv A outer s H vs Q E rfl hr hsp
/-- a function keeps its promise, if its body does -/
theorem fn_ok {P : Program} {w : World} {K : PySem.W.Frag} {mg : Str → Option Value} {base : Heap} {x qual : Str} {params : Arguments} {body : List Stmt} {scope : Scope} {dvs : List V} {kws : List (Str × V)} {f : Addr} {fd : FuncData} {N ps : List Str} {k : Nat} {φ : Fn} {sv : Sv} (F : FunD K x qual params body scope dvs kws f fd) (S : FnScope N ps scope)
    (hφ : ∀ ds d, φ ds = some d → runF N.length sv ds = some d)
    (hb : ∀ (cdv : Value) (A : Around) (outer : List Env) (s : Shared) (H : Hp) (E : XK), cdv = fd.code → Room k (A.deeper (envOfC qual scope s.heap.objs.size f cdv)) → Takes (cxOf (L2.CX P w) P w K mg base N qual scope f cdv A outer s H E) (fun cls d _ H => E cls d H) →
      PassesOwn (model P w) (A.deeper (envOfC qual scope s.heap.objs.size f cdv)) (envOfC qual scope s.heap.objs.size f cdv) (cxOf (L2.CX P w) P w K mg base N qual scope f cdv A outer s H E).xe →
      DSs (cxOf (L2.CX P w) P w K mg base N qual scope f cdv A outer s H E) Γ (fun cls d _ H => E cls d H) body sv) : FnOk P w K mg base (L2.CX P w) (k + 1) f fd ps (spP w K Γ ps.length φ) := by
  refine okC F S (fun vs H Q E h => h.1) fun cdv A outer s H vs Q E hcd hr h => ?_
  refine ⟨_, hb cdv A outer s H E hcd hr (takes_of rfl rfl rfl rfl) (passes_of rfl), ?_⟩
  obtain ⟨hl, ds, ρ, live, tab, rd, q⟩ := h
  have hr0 : HRel w K Γ 0 ρ H [] := ⟨rfl, fun i j hi => absurd hi (Nat.not_lt_zero _), fun i hi => absurd hi (Nat.not_lt_zero _), live, fun i o e => by simp at e, tab⟩
  refine ⟨startE N.length ds, [], 0, ρ, start_rel (X := cxOf (L2.CX P w) P w K mg base N qual scope f cdv A outer s H E) rd, hr0, ?_⟩
  have back : ∀ {n' : Nat} {ρ' : Rho} {H' : Hp}, Ext 0 ρ H n' ρ' H' → ∀ b o, H' b = some o → Free n' ρ' b → NTb o → H' b = some o ∧ Free 0 ρ b := fun x b o hb f _ => ⟨hb, fun z => f.1 (x.bans b z), fun i hi => absurd hi (Nat.not_lt_zero _)⟩
  have ext : ∀ {n' : Nat} {ρ' : Rho} {H' : Hp}, Ext 0 ρ H n' ρ' H' → Ext 0 ρ H 0 ρ H' := fun x => ⟨⟨Nat.le_refl _, fun _ _ => rfl, fun b o h f t => ⟨(x.keep b o h f t).1, f⟩⟩, fun _ z => z, x.bkeep⟩
  have tabs : ∀ {n' : Nat} {ρ' : Rho} {H' : Hp} {h' : AH}, Ext 0 ρ H n' ρ' H' → HRel w K Γ n' ρ' H' h' → TabF Γ.T 0 ρ H' := fun x hr => hr.tab.keep fun b o hb f => ⟨hb, fun z => f.1 (x.bans b z), fun i hi => absurd hi (Nat.not_lt_zero _)⟩
  cases e0 : φ ds with
  | none => rw [e0] at q; exact q.elim
  | some r0 =>
    have er := hφ ds r0 e0
    rw [e0] at q
    unfold runF at er
    cases e1 : sv (startE N.length ds) [] with
    | none => rw [e1] at er; cases er
    | some r =>
      obtain ⟨fl, h1⟩ := r
      rw [e1] at er
      cases fl with
      | next E' =>
        have er : some (Out.ok D.non) = some r0 := er
        cases er
        exact fun σ' n' ρ' H' x hr' _ => q .non H' (ext x) (tabs x hr') .non
      | ret d =>
        intro v n' ρ' H' x hr' rv
        simp only [finS] at er
        cases e2 : frzR d h1 with
        | none => rw [e2] at er; cases er
        | some p =>
          obtain ⟨d', h2⟩ := p
          rw [e2] at er
          cases er
          obtain ⟨ρ2, x2, hr2, r2⟩ := frzR_ok (X := cxOf (L2.CX P w) P w K mg base N qual scope f cdv A outer s H E) hr' rv e2
          exact q v H' (ext (x.trans x2)) (tabs (x.trans x2) hr2) (r2.keep0 (back (x.trans x2)))
      | brk E' => cases er
      | cont E' => cases er
      | exc E' c fs =>
        have er : some (Out.exc c fs) = some r0 := er
        cases er
        refine fun σ' cls dd n' ρ' H' x hr' _ xr => q cls dd H' (ext x) (tabs x hr') ⟨xr.1, ?_⟩
        rcases xr.2 with z | ⟨a, fvs, z1, z2, z3, z4⟩
        · exact .inl z
        · exact .inr ⟨a, fvs, z1, z2, (back x a _ z2 z3 (fun _ z => by cases z)).2, z4.keep0 (back x)⟩
end
end MP
set_option Elab.async false
set_option linter.all false
set_option maxRecDepth 100000
set_option maxHeartbeats 4000000
/-! MPQ: objects: attributes, properties, methods, stores, making. -/
namespace MP
open PySem PySem.Spec PyProof.Rows L2
section
variable {X : Cx} {Γ : Gm} {W : WX} {pins : List (Addr × Obj)} {σ : L2.St} {H : Hp} {s : Shared} {n : Nat} {ρ : Rho} {h : AH}
/-- an instance: its class, its attributes -/
def insV (h : AH) (d : D) : Option (Str × List (Str × D)) := match d with
  | .obj c fs => some (c, fs)
  | .ref i => match h[i]? with
    | some (.ins c fs) => some (c, fs)
    | some (.fz (.obj c fs)) => some (c, fs)
    | _ => none
  | _ => none
theorem RelD.obj_at {m : Nat} {c : Str} {fs : List (Str × D)} {v : V} (r : RelD X.w X.K Γ n ρ H m (.obj c fs) v) : ∃ a dx fvs, v = .ref a ∧ H a = some (.ins (Γ c) dx fvs) ∧ Γ.ok c ∧ RelFs X.w X.K Γ n ρ H n fs fvs := by
  cases r with
  | obj h1 f k r => exact ⟨_, _, _, rfl, h1, k, r.up⟩
theorem insV_at {d : D} {c : Str} {fs : List (Str × D)} {v : V} (hr : HR X Γ n ρ H h) (r : RD X Γ n ρ H d v) (e : insV h d = some (c, fs)) : ∃ a dx fvs, v = .ref a ∧ H a = some (.ins (Γ c) dx fvs) ∧ Γ.ok c ∧ RelFs X.w X.K Γ n ρ H n fs fvs := by
  cases d with
  | obj c' fs' => cases e; exact r.obj_at
  | ref i =>
    simp only [insV] at e
    cases r with
    | ref hi =>
      cases q : h[i]? with
      | none => rw [q] at e; cases e
      | some o =>
        rw [q] at e
        have z := hr.at_ i o q
        cases o with
        | ins c' fs' => cases e; obtain ⟨_, k, dx, fvs, h1, h2⟩ := z; exact ⟨_, dx, fvs, rfl, h1, k, h2⟩
        | fz d =>
          cases d with
          | obj c' fs' => cases e; exact z.2.2.obj_at
          | _ => cases e
        | _ => cases e
  | _ => cases e
theorem RelFs.look {m : Nat} {f : Str} : ∀ {fs : List (Str × D)} {fvs : List (Str × V)}, RelFs X.w X.K Γ n ρ H m fs fvs → (fs.lookup f = none ∧ fvs.lookup f = none) ∨ ∃ d v, fs.lookup f = some d ∧ fvs.lookup f = some v ∧ RelD X.w X.K Γ n ρ H m d v
  | _, _, .nil => .inl ⟨rfl, rfl⟩
  | _, _, .cons (f := g) (d := d) (v := v) r t => by
    cases e : (f == g) with
    | true => exact .inr ⟨d, v, by simp [List.lookup, e], by simp [List.lookup, e], r⟩
    | false =>
      rcases RelFs.look (f := f) t with ⟨a, b⟩ | ⟨d', v', a, b, c⟩
      · exact .inl ⟨by simp [List.lookup, e, a], by simp [List.lookup, e, b]⟩
      · exact .inr ⟨d', v', by simp [List.lookup, e, a], by simp [List.lookup, e, b], c⟩
/-- e.f -/
def fldR (f : Str) (d : D) (h : AH) : Res D := match insV h d with
  | some (_, fs) => match fs.lookup f with
    | some v => okR v h
    | none => none
  | none => none
def evFld (f : Str) (fe : Ev) : Ev := fun E h => bindR (fe E h) (fldR f)
theorem de_fld {e : Expr} {f : Str} {pos : Pos} {fe : Ev} (hc : ∀ c, Γ.ok c → Cls X.K (Γ c) ∧ NoAttr X.K (Γ c) f) (he : DE X Γ W e fe) (hb : attributeBase e f X.env (eval e X.env) = eval e X.env) : DE X Γ W (.Attribute e f pos) (evFld f fe) :=
  PE.imp (pe_fld he hb) fun σ H Q ⟨E, h, n, ρ, er, hr, q⟩ => ⟨E, h, n, ρ, er, hr, (Post.bind (R := RelT X.w X.K Γ) q).imp fun x H1 ⟨d, h1, n1, ρ1, x1, hr1, rd, q1⟩ => by
    unfold fldR at q1
    cases e1 : insV h1 d with
    | none => rw [e1] at q1; exact q1.elim
    | some p =>
      obtain ⟨c, fs⟩ := p
      simp only [e1] at q1
      obtain ⟨a, dx, fvs, rfl, h2, k, r2⟩ := insV_at hr1 rd e1
      rcases r2.look (f := f) with ⟨z, _⟩ | ⟨d', v', z1, z2, z3⟩
      · rw [z] at q1; exact q1.elim
      · rw [z1] at q1
        exact ⟨a, Γ c, dx, fvs, v', rfl, h2, (hc c k).1, (hc c k).2, z2, q1.okR hr1 z3⟩⟩
/-- e.f, a property of the class c -/
def propR (c : Str) (φ : Fn) (d : D) (h : AH) : Res D := match frzR d h with
  | some (d', h1) => match d' with
    | .obj c' _ => if decide (c' = c) = true then (match φ [d'] with
      | some (.ok v) => okR v h1
      | _ => none) else none
    | _ => none
  | none => none
def evProp (c : Str) (φ : Fn) (fe : Ev) : Ev := fun E h => bindR (fe E h) (propR c φ)
theorem de_prop {e : Expr} {f c : Str} {pos : Pos} {fe : Ev} {φ : Fn} {p g : Addr} {fd : FuncData} {k : Nat} (he : DE X Γ W e fe) (cl : Cls X.K (Γ c)) (hp : PropOf X.K (Γ c) f p g) (F : FnOk X.prog X.w X.K X.mg X.base (L2.CX X.prog X.w) k g fd ["self"] (spP X.w X.K Γ 1 φ)) (hr : Room (k + 1) X.A) (hb : Binds X.K fd ["self"] [])
    (hab : attributeBase e f X.env (eval e X.env) = eval e X.env) : DE X Γ W (.Attribute e f pos) (evProp c φ fe) :=
  PE.imp (pe_prop (E := fun _ _ _ => False) (dvs := []) he cl hp F hr hb .nil (fun pins σ H s e' s' I hq => by
      obtain ⟨a, B, H', cls, d, _, _, _, _, _, _, _, z⟩ := hq
      exact z.elim) hab) fun σ H Q ⟨E, h, n, ρ, er, hr, q⟩ => ⟨E, h, n, ρ, er, hr, (Post.bind (R := RelT X.w X.K Γ) q).imp fun x H1 ⟨d, h1, n1, ρ1, x1, hr1, rd, q1⟩ => by
    unfold propR at q1
    cases e1 : frzR d h1 with
    | none => rw [e1] at q1; exact q1.elim
    | some p =>
      obtain ⟨d', h2⟩ := p
      simp only [e1] at q1
      obtain ⟨ρ2, x2, hr2, r2⟩ := frzR_ok hr1 rd e1
      cases d' with
      | obj c' fs =>
        simp only at q1
        by_cases hc : decide (c' = c) = true
        · rw [if_pos hc] at q1
          have ec := of_decide_eq_true hc
          subst ec
          obtain ⟨a, dx, fvs, rfl, g1, _⟩ := r2.obj_at
          have r3 : RelDs X.w X.K Γ 0 (lend n1 ρ2) H1 0 [.obj c' fs] [.ref a] := RelDs.keep0 (fun b o hb f _ => ⟨hb, lend_free.mpr f⟩) (.cons r2 .nil)
          refine ⟨a, dx, fvs, rfl, g1, rfl, [.obj c' fs], lend n1 ρ2, lend_live hr2, lend_tab hr2.tab, r3, ?_⟩
          cases e2 : φ [.obj c' fs] with
          | none => rw [e2] at q1; exact q1.elim
          | some r =>
            rw [e2] at q1
            cases r with
            | ok v => exact fun v' H' x t rv => q1 v' n1 ρ2 H' (x2.trans (lend_ext x)) (lend_back hr2 x t) (rv.keep0 fun b o hb f _ => ⟨hb, lend_free.mp f⟩).up
            | exc c fs => exact q1.elim
        · rw [if_neg hc] at q1; exact q1.elim
      | _ => exact q1.elim⟩
/-! ### methods -/
/-- o.m(e, ..), by the class of o -/
def methK (m : Str) (tab : Str → Option Fn) (o : D) (h : AH) (k : Fn → D → AH → Res D) : Res D := match frzR o h with
  | some (o', h1) => match o' with
    | .obj c fs => match fs.lookup m with
      | none => match tab c with
        | some φ => k φ o' h1
        | none => none
      | some _ => none
    | _ => none
  | none => none
def evMeth (m : Str) (tab : Str → Option Fn) (dfl : List D) (fo : Ev) (g : Env' → AH → Res (List D)) : Ev := fun E h => bindR (fo E h) fun o h1 => methK m tab o h1 fun φ o' h2 => bindR (g E h2) fun ds h3 => callP φ dfl (o' :: ds) h3
/-- a class's method, as it is called -/
structure MOk (X : Cx) (Γ : Gm) (k : Nat) (m : Str) (na : Nat) (dvs : List V) (c : Str) (φ : Fn) : Prop where
  cl : Cls X.K (Γ c)
  ex : ∃ f fd ps dus, Meth X.K (Γ c) m f ∧ FnOk X.prog X.w X.K X.mg X.base (L2.CX X.prog X.w) k f fd ps (spP X.w X.K Γ ps.length φ) ∧ Binds X.K fd ps dus ∧ Vals dvs dus ∧ na + 1 + dvs.length = ps.length
theorem methK_ok {m : Str} {tab : Str → Option Fn} {o : D} {v : V} {k : Fn → D → AH → Res D} {Wx : Value → Option Addr → Hp → Prop} {Q : VK} (hr : HR X Γ n ρ H h) (r : RD X Γ n ρ H o v) (q : PostE X Γ n ρ H Wx (methK m tab o h k) Q) :
    ∃ c fs a dx fvs φ ρ1 h1, v = .ref a ∧ H a = some (.ins (Γ c) dx fvs) ∧ fvs.lookup m = none ∧ tab c = some φ ∧ Ext n ρ H n ρ1 H ∧ HR X Γ n ρ1 H h1 ∧ RD0 X Γ n ρ1 H (.obj c fs) v ∧ PostE X Γ n ρ1 H Wx (k φ (.obj c fs) h1) Q := by
  unfold methK at q
  cases e1 : frzR o h with
  | none => rw [e1] at q; exact q.elim
  | some p =>
    obtain ⟨o', h1⟩ := p
    simp only [e1] at q
    obtain ⟨ρ1, x1, hr1, r1⟩ := frzR_ok hr r e1
    cases o' with
    | obj c fs =>
      simp only at q
      cases e2 : fs.lookup m with
      | some z => rw [e2] at q; exact q.elim
      | none =>
        simp only [e2] at q
        cases e3 : tab c with
        | none => rw [e3] at q; exact q.elim
        | some φ =>
          simp only [e3] at q
          obtain ⟨a, dx, fvs, rfl, g1, _, g3⟩ := r1.obj_at
          refine ⟨c, fs, a, dx, fvs, φ, ρ1, h1, rfl, g1, ?_, e3, x1, hr1, r1, Post.mono x1 q⟩
          rcases g3.look (f := m) with ⟨_, z⟩ | ⟨d', v', z1, _⟩
          · exact z
          · rw [e2] at z1; cases z1
    | _ => exact q.elim
theorem de_meth {o e : Expr} {es : List Expr} {m : Str} {apos pos : Pos} {fo : Ev} {g : Env' → AH → Res (List D)} {tab : Str → Option Fn} {dfl : List D} {dvs : List V} {k : Nat} {pl : Sem Bool} (tk : Takes X W) (hr : Room k X.A) (ht : ∀ c φ, tab c = some φ → MOk X Γ k m (e :: es).length dvs c φ) (hd : ∀ ρ H, RelDs X.w X.K Γ 0 ρ H 0 dfl dvs) (ho : DE X Γ W o fo) (ha : DA X Γ W (e :: es) g)
    (hlen : ∀ E h ds h', g E h = some (.ok ds, h') → ds.length = (e :: es).length) (hst : starEach (e :: es) X.env = (false, eval e X.env) :: starEach es X.env) (hpl : (backTo pos (starEach es X.env)).any (·.1) = false)
    (hev : eval (.Call (.Attribute o m apos) (e :: es) [] pos) X.env = (do
      let ov ← eval o X.env
      standAt apos.atName
      let (f, first) ← holding [ov] (getMethod ov m pl)
      callWith pos f first (backTo pos (starEach (e :: es) X.env)) (backToKw pos (keywordEach [] X.env)))) : DE X Γ W (.Call (.Attribute o m apos) (e :: es) [] pos) (evMeth m tab dfl fo g) := by
  refine ⟨fun pins s σ H Q I ⟨E, h, n, ρ, er, hr0, q⟩ => ?_⟩
  refine PySem.W.methodCall_KW (pl := pl) (thn (ho.run pins s σ H _ I ⟨E, h, n, ρ, er, hr0, Post.bind (R := RelT X.w X.K Γ) q⟩) fun u s1 ⟨x, H1, I1, rx, od, h1, n1, ρ1, x1, hr1, rd, q1⟩ => ?_) hev
  obtain ⟨c, fs, a, dx, fvs, φ, ρ2, h2, rfl, g1, g2, g3, x2, hr2, r2, q2⟩ := methK_ok hr1 rd q1
  cases rx
  obtain ⟨cl, f, fd, ps, dus, me, F, hb, hdv, na⟩ := ht c φ g3
  refine getmeth_ok I1 g1 cl me g2 ?_
  refine PySem.W.callWith_K (first := [.ref a]) (h₀ := X.base) I.ok.mod.kin me.kp (thn (ha.run pos pins s1 σ H1 _ I1 ⟨E, h2, n1, ρ2, (er.mono x1).mono x2, hr2, (Post.bind (R := RelTs X.w X.K Γ) q2).imp' fun vs ds h' n3 ρ3 H3 eq x3 hr3 rd3 z => (⟨hlen _ _ _ _ eq ▸ rd3.length, z⟩ : (e :: es).length = vs.length ∧ _)⟩) fun us s2 ⟨vs, H2, I2, r, hl, ds, h3, n3, ρ3, x3, hr3, rd3, q3⟩ => ⟨I2.kIn, ?_⟩) hst hpl
  have r4 : RD X Γ n3 ρ3 H2 (.obj c fs) (.ref a) := (r2.monoP x3).up
  have sp : spP X.w X.K Γ ps.length φ ((.ref a :: vs) ++ dvs) H2 Q (WE W σ) := callP_ok (by rw [List.length_append, List.length_cons, ← hl]; exact na) hd hr3 (.cons r4 rd3) q3
  exact run_fnSD (E := WE W) (us := .ref a :: us) (vs := .ref a :: vs) F hr hb hdv (passAt tk σ) I2 (.cons rfl r) sp
theorem de_meth0 {o : Expr} {m : Str} {apos pos : Pos} {fo : Ev} {tab : Str → Option Fn} {dfl : List D} {dvs : List V} {k : Nat} {pl : Sem Bool} (tk : Takes X W) (hr : Room k X.A) (ht : ∀ c φ, tab c = some φ → MOk X Γ k m 0 dvs c φ) (hd : ∀ ρ H, RelDs X.w X.K Γ 0 ρ H 0 dfl dvs) (ho : DE X Γ W o fo)
    (hev : eval (.Call (.Attribute o m apos) [] [] pos) X.env = (do
      let ov ← eval o X.env
      standAt apos.atName
      let (f, first) ← holding [ov] (getMethod ov m pl)
      callWith pos f first (backTo pos (starEach [] X.env)) (backToKw pos (keywordEach [] X.env)))) : DE X Γ W (.Call (.Attribute o m apos) [] [] pos) (evMeth m tab dfl fo avNil) := by
  refine ⟨fun pins s σ H Q I ⟨E, h, n, ρ, er, hr0, q⟩ => ?_⟩
  refine PySem.W.methodCall_KW (pl := pl) (thn (ho.run pins s σ H _ I ⟨E, h, n, ρ, er, hr0, Post.bind (R := RelT X.w X.K Γ) q⟩) fun u s1 ⟨x, H1, I1, rx, od, h1, n1, ρ1, x1, hr1, rd, q1⟩ => ?_) hev
  obtain ⟨c, fs, a, dx, fvs, φ, ρ2, h2, rfl, g1, g2, g3, x2, hr2, r2, q2⟩ := methK_ok hr1 rd q1
  cases rx
  obtain ⟨cl, f, fd, ps, dus, me, F, hb, hdv, na⟩ := ht c φ g3
  refine getmeth_ok I1 g1 cl me g2 ?_
  have sp : spP X.w X.K Γ ps.length φ ([.ref a] ++ dvs) H1 Q (WE W σ) := callP_ok (by rw [List.length_append]; simpa using na) hd hr2 (.cons r2.up .nil) q2
  exact PySem.W.callWith_K0 (first := [.ref a]) I1.kIn me.kp (run_fnSD (E := WE W) (us := [.ref a]) (vs := [.ref a]) F hr hb hdv (passAt tk σ) I1 (.cons rfl .nil) sp)
end
end MP
set_option Elab.async false
set_option linter.all false
set_option maxRecDepth 100000
set_option maxHeartbeats 4000000
/-! MPR: instances that are made, attributes that are stored; what is never reached. -/
namespace MP
open PySem PySem.Spec PyProof.Rows L2
def evStuck : Ev := fun _ _ => none
def svStuck : Sv := fun _ _ => none
def tvStuck : Env' → AH → Res Bool := fun _ _ => none
section
variable {X : Cx} {Γ : Gm} {W : WX} {pins : List (Addr × Obj)} {σ : L2.St} {H : Hp} {s : Shared} {n : Nat} {ρ : Rho} {h : AH}
theorem de_stuck {e : Expr} : DE X Γ W e evStuck := ⟨fun pins s σ H Q I ⟨E, h, n, ρ, er, hr, q⟩ => q.elim⟩
theorem dt_stuck {e : Expr} : DT X Γ W e tvStuck := ⟨fun pins s σ H Q I ⟨E, h, n, ρ, er, hr, q⟩ => q.elim⟩
theorem ds_stuck {st : Stmt} : DS X Γ W st svStuck := ⟨fun pins s σ H Q I ⟨E, h, n, ρ, er, hr, q⟩ => q.elim⟩
theorem dss_stuck {st : List Stmt} : DSs X Γ W st svStuck := ⟨fun pins s σ H Q I ⟨E, h, n, ρ, er, hr, q⟩ => q.elim⟩
/-! ### o.f = v -/
def putD (f : Str) (v : D) : List (Str × D) → List (Str × D)
  | [] => [(f, v)]
  | (g, x) :: r => match decide (g = f) with
    | true => (g, v) :: r
    | false => (g, x) :: putD f v r
theorem RelFs.put {m : Nat} {f : Str} {d : D} {y : V} (r : RelD X.w X.K Γ n ρ H m d y) : ∀ {fs : List (Str × D)} {fvs : List (Str × V)}, RelFs X.w X.K Γ n ρ H m fs fvs → RelFs X.w X.K Γ n ρ H m (putD f d fs) (putF f y fvs)
  | _, _, .nil => .cons r .nil
  | _, _, .cons (f := g) r' t => by
    unfold putD putF
    by_cases e : g = f
    · rw [decide_eq_true e, if_pos e]; exact .cons r t
    · rw [decide_eq_false e, if_neg e]; exact .cons r' (RelFs.put r t)
theorem RelFs.length {m : Nat} : ∀ {fs : List (Str × D)} {fvs : List (Str × V)}, RelFs X.w X.K Γ n ρ H m fs fvs → fs.length = fvs.length
  | _, _, .nil => rfl
  | _, _, .cons _ t => congrArg Nat.succ (RelFs.length t)
def stfR (f : Str) (v o : D) (h : AH) : Option AH := match o with
  | .ref i => match h[i]? with
    | some (.ins c fs) => if decide (fs.length < 1000) = true then some (h.set i (.ins c (putD f v fs))) else none
    | _ => none
  | _ => none
def svFld (f : Str) (fv fo : Ev) : Sv := fun E h => bindE (fv E h) E fun v h1 => bindE (fo E h1) E fun o h2 => match stfR f v o h2 with
  | some h3 => some (.next E, h3)
  | none => none
theorem ds_fld {o value : Expr} {f : Str} {pos pos' : Pos} {fv fo : Ev} (hc : ∀ c, Γ.ok c → Cls X.K (Γ c) ∧ NoAttr X.K (Γ c) f) (pv : DE X Γ W value fv) (po : DE X Γ W o fo) (hs : swapsWith value (some (.Attribute o f pos')) pos.line X.env = pure false) :
    DS X Γ W (.Assign [.Attribute o f pos'] value pos) (svFld f fv fo) :=
  PS.imp (ps_fld po pv hs) fun Z σ H ⟨E, h, n, ρ, er, hr, q⟩ => ⟨E, h, n, ρ, er, hr, (PostS.expr (R := RelT X.w X.K Γ) er q).imp fun y H1 ⟨v, h1, n1, ρ1, x1, hr1, rv, q1⟩ =>
    ⟨E, h1, n1, ρ1, er.mono x1, hr1, (PostS.expr (R := RelT X.w X.K Γ) (er.mono x1) q1).imp fun x H2 ⟨o, h2, n2, ρ2, x2, hr2, ro, q2⟩ => by
      cases e : stfR f v o h2 with
      | none => rw [e] at q2; exact q2.elim
      | some h3 =>
        rw [e] at q2
        unfold stfR at e
        cases o with
        | ref i =>
          simp only at e
          cases ro with
          | ref hi =>
            cases e1 : h2[i]? with
            | none => rw [e1] at e; cases e
            | some ao =>
              rw [e1] at e
              cases ao with
              | ins c fs =>
                simp only at e
                by_cases hl : decide (fs.length < 1000) = true
                · rw [if_pos hl] at e
                  cases e
                  obtain ⟨hz, k, dx, fvs, g1, g2⟩ := hr2.at_ i _ e1
                  have xw := Ext.write (o := .ins (Γ c) dx (putF f y fvs)) (H := H2) hi hz (hr2.nb i hi)
                  refine ⟨_, Γ c, dx, fvs, rfl, g1, (hc c k).1, (hc c k).2, by rw [← g2.length]; exact of_decide_eq_true hl, ?_⟩
                  exact q2 σ n2 ρ2 _ xw (hr2.write hi hz ⟨hz, k, dx, _, upd_same, ((g2.put (rv.mono x2)).mono xw)⟩) (((er.mono x1).mono x2).mono xw)
                · rw [if_neg hl] at e; cases e
              | _ => cases e
        | _ => cases e⟩⟩
/-! ### C(..) -/
/-- what an __init__ leaves in self, by the values handed in -/
abbrev FnI := List D → Option (Out (List (Str × D)))
def Keeps1 (ρ : Rho) (H H' : Hp) : Prop := (∀ b o, H b = some o → Free 1 ρ b → NTb o → H' b = some o) ∧ ∀ b o, ρ.ban b → H b = some o → H' b = some o
def PostI (w : World) (K : PySem.W.Frag) (Γ : Gm) (c : Str) (ρ : Rho) (H : Hp) (E : XK) (r : Option (Out (List (Str × D)))) (Q : VK) : Prop := match r with
  | none => False
  | some (.ok fs) => ∀ H', Keeps1 ρ H H' → TabF Γ.T 0 ρ H' → (∃ dx fvs, H' (ρ.to 0) = some (.ins (Γ c) dx fvs) ∧ RelFs w K Γ 0 ρ H' 0 fs fvs) → Q .non H'
  | some (.exc c fs) => ∀ cls dd H', Keeps1 ρ H H' → TabF Γ.T 0 ρ H' → XR0 w K Γ ρ H' c fs cls dd → E cls dd H'
def spI (w : World) (K : PySem.W.Frag) (Γ : Gm) (ar : Nat) (c : Str) (φ : FnI) : Sp := fun vs H Q E => vs.length = ar ∧ ∃ ds vs' ρ, vs = .ref (ρ.to 0) :: vs' ∧ HRel w K Γ 1 ρ H [.ins c []] ∧ RelDs w K Γ 1 ρ H 0 ds vs' ∧ PostI w K Γ c ρ H E (φ ds) Q
theorem run_mkS {C f : Addr} {fd : FuncData} {ps : List Str} {sp : Sp} {k : Nat} {dus : List Value} {dvs : List V} {E : L2.St → XK} {Q : VK} {us : List Value} {vs : List V} {CX : CXT} (M : Mk X.K C f) (F : FnOk X.prog X.w X.K X.mg X.base CX k f fd ps sp) (hr : Room (k + 1) X.A) (hb : Binds X.K fd ps dus) (hd : Vals dvs dus)
    (hx : PassesAt CX X σ (E σ)) (I : Inv X pins σ H s) (r : Vals vs us)
    (h : ∀ x dx, H x = none → H dx = none → dx ≠ x → sp (.ref x :: (vs ++ dvs)) (upd (upd H dx (.own x)) x (.ins C dx [])) (fun v H2 => v = .non ∧ Q (.ref x) H2) (E σ)) :
    wpAny (model X.prog X.w) X.A (call (.ref C) us) (EP X pins σ Q) X.xe s := by
  have hq := h (s.heap.objs.size + 1) s.heap.objs.size (I.hok.fresh (Nat.le_succ _)) (I.hok.fresh (Nat.le_refl _)) (Nat.ne_of_lt (Nat.lt_succ_self _))
  have I2 := Inv.made (C := C) I
  have r2 : Vals (V.ref (s.heap.objs.size + 1) :: (vs ++ dvs)) (Value.ref (s.heap.objs.size + 1) :: (us ++ dus)) := .cons rfl (r.append hd)
  have hl : (Value.ref (s.heap.objs.size + 1) :: us ++ dus).length = ps.length := (F.len _ _ _ _ hq ▸ r2.length).symm
  refine wpAny_call (make_map (f := f) I.kIn M.makes M.init (beq_iff_eq.mp M.fn) (codeAny_mono (F.run _ X.stack _ _ ⟨_ :: us, []⟩ (_ :: (us ++ dus)) _ _ (E σ) (hr.make C us []) (I2.env0.make C us []) (hb _ (_ :: us) I2.kIn hl) r2 hq) fun r s' hq' => ?_))
  cases r with
  | error e => exact hx pins _ _ e s' I2 hq'
  | ok fl =>
    cases fl with
    | ret u =>
      obtain ⟨v, H', I3, rv, ev, q3⟩ := I2.after hq'
      subst ev
      exact ⟨rv, ⟨V.ref (s.heap.objs.size + 1), H', I3, rfl, q3⟩⟩
    | next => exact hq'.elim
    | brk => exact hq'.elim
    | cont => exact hq'.elim
def makeP (c : Str) (φ : FnI) (dfl : List D) (ds : List D) (h : AH) : Res D := match frzs ds h with
  | some (ds', h1) => match φ (ds' ++ dfl) with
    | some (.ok fs) => some (.ok (.obj c fs), h1)
    | some (.exc c' fs) => some (.exc c' fs, h1)
    | none => none
  | none => none
/-- the caller's state, with self beside -/
def lendI (n : Nat) (ρ : Rho) (x : Addr) : Rho := ⟨fun _ => x, (lend n ρ).ban, fun _ => False⟩
theorem makeP_ok {c : Str} {φ : FnI} {ar : Nat} {dfl ds : List D} {dvs vs : List V} {Q : VK} (kc : Γ.ok c) (hl : (vs ++ dvs).length + 1 = ar) (hd : ∀ ρ H, RelDs X.w X.K Γ 1 ρ H 0 dfl dvs) (hr : HR X Γ n ρ H h) (rd : RDs X Γ n ρ H ds vs) (q : PostE X Γ n ρ H (fun c d H' => W c d σ H') (makeP c φ dfl ds h) Q) :
    ∀ x dx, H x = none → H dx = none → dx ≠ x → spI X.w X.K Γ ar c φ (.ref x :: (vs ++ dvs)) (upd (upd H dx (.own x)) x (.ins (Γ c) dx [])) (fun v H2 => v = .non ∧ Q (.ref x) H2) (WE W σ) := by
  intro x dx hx hdx hne
  unfold makeP at q
  cases e : frzs ds h with
  | none => rw [e] at q; exact q.elim
  | some p =>
    obtain ⟨ds', h1⟩ := p
    simp only [e] at q
    obtain ⟨ρ1, x1, hr1, r1⟩ := frzs_ok hr rd e
    have old : ∀ {b : Addr} {o : HO}, H b = some o → (upd (upd H dx (.own x)) x (.ins (Γ c) dx [])) b = some o := fun {b o} hb => by rw [upd_ne (ne_of_none hb hx), upd_ne (ne_of_none hb hdx)]; exact hb
    have nb : ¬ (lend n ρ1).ban x := fun z => by
      obtain ⟨u, hu⟩ := lend_live hr1 x z
      rw [hx] at hu
      cases hu
    have fr : ∀ {b : Addr} {o : HO}, H b = some o → Free n ρ1 b → Free 1 (lendI n ρ1 x) b := fun {b o} hb f => ⟨(lend_free.mpr f).1, fun i _ _ => ne_of_none hb hx⟩
    have r2 : RelDs X.w X.K Γ 1 (lendI n ρ1 x) (upd (upd H dx (.own x)) x (.ins (Γ c) dx [])) 0 ds' vs := r1.keep0 fun b o hb f _ => ⟨old hb, fr hb f⟩
    refine ⟨hl, ds' ++ dfl, vs ++ dvs, lendI n ρ1 x, rfl, ?_, r2.append (hd _ _), ?_⟩
    · refine ⟨rfl, fun i j hi hj _ => by omega, fun i hi => nb, fun b z => ?_, fun i o e => ?_, hr1.tab.keep fun b o hb f => ⟨old hb, fr hb f⟩⟩
      · obtain ⟨u, hu⟩ := lend_live hr1 b z
        exact ⟨u, old hu⟩
      · cases i with
        | zero => cases e; exact ⟨fun z => z, kc, dx, [], upd_same, .nil⟩
        | succ i => simp at e
    · have ext : ∀ {H' : Hp}, Keeps1 (lendI n ρ1 x) (upd (upd H dx (.own x)) x (.ins (Γ c) dx [])) H' → TabF Γ.T 0 (lendI n ρ1 x) H' → Ext n ρ1 H n ρ1 H' ∧ HR X Γ n ρ1 H' h1 := fun {H'} ⟨k1, k2⟩ tb => by
        have xx : Ext n ρ1 H n ρ1 H' := ⟨⟨Nat.le_refl _, fun _ _ => rfl, fun b o hb f t => ⟨k1 b o (old hb) (fr hb f) t, f⟩⟩, fun _ z => z, fun b o z hb => k2 b o (.inl z) (old hb)⟩
        refine ⟨xx, hr1.len, hr1.inj, hr1.nb, fun b z => ?_, fun i o e => ?_, tb.keep fun b o hb f => ⟨hb, lend_free.mp ⟨f.1, fun i hi => absurd hi (Nat.not_lt_zero _)⟩⟩⟩
        · obtain ⟨u, hu⟩ := hr1.live b z
          exact ⟨u, xx.bkeep b u z hu⟩
        · have hi : i < n := by rw [← hr1.len]; exact (List.getElem?_eq_some_iff.mp e).1
          refine ORel.mono xx.toExt0 Iff.rfl (fun u hu => ?_) (hr1.at_ i o e)
          by_cases hz : ρ1.fz i
          · exact (xx.keep _ _ hu ⟨hr1.nb i hi, fun j hj hj2 e2 => hj2 ((hr1.inj i j hi hj e2) ▸ hz)⟩ ((hr1.at_ i o e).ntb hu)).1
          · exact k2 _ _ (.inr ⟨i, hi, hz, rfl⟩) (old hu)
      have back : ∀ {H' : Hp}, ∀ b o, H' b = some o → Free 0 (lendI n ρ1 x) b → NTb o → H' b = some o ∧ Free n ρ1 b := fun b o hb f _ => ⟨hb, lend_free.mp ⟨f.1, fun i hi => absurd hi (Nat.not_lt_zero _)⟩⟩
      cases e2 : φ (ds' ++ dfl) with
      | none => rw [e2] at q; exact q.elim
      | some r =>
        rw [e2] at q
        cases r with
        | ok fs =>
          intro H' kp tb ⟨dx', fvs, g1, g2⟩
          obtain ⟨xx, hr2⟩ := ext kp tb
          exact ⟨rfl, q _ n ρ1 H' (x1.trans xx) hr2 (.obj g1 (hr1.fresh hx) kc (g2.keep0 back))⟩
        | exc c' fs =>
          intro cls dd H' kp tb xr
          obtain ⟨xx, hr2⟩ := ext kp tb
          refine q cls dd n ρ1 H' (x1.trans xx) hr2 ⟨xr.1, ?_⟩
          rcases xr.2 with z | ⟨a, fvs, z1, z2, z3, z4⟩
          · exact .inl z
          · exact .inr ⟨a, fvs, z1, z2, (back a _ z2 z3 (fun _ z => by cases z)).2, z4.keep0 back⟩
def evMake (c : Str) (φ : FnI) (dfl : List D) (g : Env' → AH → Res (List D)) : Ev := fun E h => bindR (g E h) (makeP c φ dfl)
theorem de_make {x c : Str} {p pos : Pos} {e : Expr} {es : List Expr} {φ : FnI} {ps : List Str} {dfl : List D} {dvs : List V} {dus : List Value} {g : Env' → AH → Res (List D)} {k : Nat} {f : Addr} {fd : FuncData} (kc : Γ.ok c) (tk : Takes X W) (M : Mk X.K (Γ c) f) (F : FnOk X.prog X.w X.K X.mg X.base (L2.CX X.prog X.w) k f fd ps (spI X.w X.K Γ ps.length c φ)) (hr : Room (k + 1) X.A) (hg : Gl X x) (hm : X.mg x = some (.ref (Γ c)))
    (hb : Binds X.K fd ps dus) (hdv : Vals dvs dus) (hd : ∀ ρ H, RelDs X.w X.K Γ 1 ρ H 0 dfl dvs) (na : (e :: es).length + dvs.length + 1 = ps.length) (ha : DA X Γ W (e :: es) g) (hlen : ∀ E h ds h', g E h = some (.ok ds, h') → ds.length = (e :: es).length) (hdb : (x == ("__debug__" : Str)) = false)
    (he : starEach (e :: es) X.env = (false, eval e X.env) :: starEach es X.env) (hpl : (backTo pos (starEach es X.env)).any (·.1) = false) : DE X Γ W (.Call (.Name x p) (e :: es) [] pos) (evMake c φ dfl g) := by
  refine ⟨fun pins s σ H Q I ⟨E, h, n, ρ, er, hr0, q⟩ => ?_⟩
  refine wpAny_Call_Name_kw (ld_glob I hg hm ?_ hdb)
  refine PySem.W.callWith_K (h₀ := X.base) I.ok.mod.kin M.kp (thn (ha.run pos pins s σ H _ I ⟨E, h, n, ρ, er, hr0, (Post.bind (R := RelTs X.w X.K Γ) q).imp' fun vs ds h' n3 ρ3 H3 eq x3 hr3 rd3 z => (⟨hlen _ _ _ _ eq ▸ rd3.length, z⟩ : (e :: es).length = vs.length ∧ _)⟩) fun us s2 ⟨vs, H2, I2, r, hl, ds, h3, n3, ρ3, x3, hr3, rd3, q3⟩ => ⟨I2.kIn, ?_⟩) he hpl
  exact run_mkS (E := WE W) M F hr hb hdv (passAt tk σ) I2 r (makeP_ok kc (by rw [List.length_append, ← hl]; exact na) hd hr3 rd3 q3)
def frzFs : List (Str × D) → AH → Option (List (Str × D) × AH)
  | [], h => some ([], h)
  | (f, d) :: r, h => match frzR d h with
    | some (d', h1) => match frzFs r h1 with
      | some (r', h2) => some ((f, d') :: r', h2)
      | none => none
    | none => none
theorem frzFs_ok : ∀ {fs fs' : List (Str × D)} {fvs : List (Str × V)} {h h' : AH} {ρ : Rho}, HR X Γ n ρ H h → RelFs X.w X.K Γ n ρ H n fs fvs → frzFs fs h = some (fs', h') → ∃ ρ', Ext n ρ H n ρ' H ∧ HR X Γ n ρ' H h' ∧ RelFs X.w X.K Γ n ρ' H 0 fs' fvs
  | [], _, _, h, _, ρ, hr, .nil, e => by cases e; exact ⟨ρ, Ext.refl, hr, .nil⟩
  | (f, d) :: r, fs', _, h, h', ρ, hr, .cons r1 t, e => by
    unfold frzFs at e
    cases e1 : frzR d h with
    | none => rw [e1] at e; cases e
    | some p =>
      obtain ⟨d', h1⟩ := p
      simp only [e1] at e
      obtain ⟨ρ1, x1, hr1, r2⟩ := frzR_ok hr r1 e1
      cases e2 : frzFs r h1 with
      | none => rw [e2] at e; cases e
      | some p =>
        obtain ⟨ds2, h2⟩ := p
        rw [e2] at e
        cases e
        obtain ⟨ρ2, x2, hr2, r3⟩ := frzFs_ok hr1 (t.mono x1) e2
        exact ⟨ρ2, x1.trans x2, hr2, .cons (r2.monoP x2) r3⟩
def at0 (h : AH) : Option AO := h[0]?
def finI (r : SRes) : Option (Out (List (Str × D))) := match r with
  | some (.next _, h) => match at0 h with
    | some (.ins _ fs) => match frzFs fs h with
      | some (fs', _) => some (.ok fs')
      | none => none
    | _ => none
  | some (.exc _ c fs, _) => some (.exc c fs)
  | _ => none
def runI (m : Nat) (c : Str) (body : Sv) : FnI := fun ds => match body (startE m (.ref 0 :: ds)) [.ins c []] with
  | some (fl, h) => match at0 h with
    | some (.ins c' _) => if decide (c' = c) = true then finI (some (fl, h)) else none
    | _ => match fl with
      | .exc _ c fs => some (.exc c fs)
      | _ => none
  | none => none
/-- an __init__ keeps its promise, if its body does -/
theorem fnI_ok {P : Program} {w : World} {K : PySem.W.Frag} {mg : Str → Option Value} {base : Heap} {x qual c : Str} {params : Arguments} {body : List Stmt} {scope : Scope} {dvs : List V} {kws : List (Str × V)} {f : Addr} {fd : FuncData} {N ps : List Str} {k : Nat} {φ : FnI} {sv : Sv} (F : FunD K x qual params body scope dvs kws f fd) (S : FnScope N ps scope)
    (hφ : ∀ ds d, φ ds = some d → runI N.length c sv ds = some d)
    (hb : ∀ (cdv : Value) (A : Around) (outer : List Env) (s : Shared) (H : Hp) (E : XK), Room k (A.deeper (envOfC qual scope s.heap.objs.size f cdv)) → Takes (cxOf (L2.CX P w) P w K mg base N qual scope f cdv A outer s H E) (fun cls d _ H => E cls d H) →
      PassesOwn (model P w) (A.deeper (envOfC qual scope s.heap.objs.size f cdv)) (envOfC qual scope s.heap.objs.size f cdv) (cxOf (L2.CX P w) P w K mg base N qual scope f cdv A outer s H E).xe →
      DSs (cxOf (L2.CX P w) P w K mg base N qual scope f cdv A outer s H E) Γ (fun cls d _ H => E cls d H) body sv) : FnOk P w K mg base (L2.CX P w) (k + 1) f fd ps (spI w K Γ ps.length c φ) := by
  refine F.ok S (fun vs H Q E h => h.1) fun cdv A outer s H vs Q E hr h => ?_
  refine ⟨_, hb cdv A outer s H E hr (takes_of rfl rfl rfl rfl) (passes_of rfl), ?_⟩
  obtain ⟨hl, ds, vs', ρ, rfl, hr0, rd, q⟩ := h
  have rd1 : RelDs w K Γ 1 ρ H 1 (.ref 0 :: ds) (.ref (ρ.to 0) :: vs') := .cons (.ref (Nat.lt_succ_self _)) rd.up
  refine ⟨startE N.length (.ref 0 :: ds), [.ins c []], 1, ρ, start_rel (X := cxOf (L2.CX P w) P w K mg base N qual scope f cdv A outer s H E) rd1, hr0, ?_⟩
  have back : ∀ {n' : Nat} {ρ' : Rho} {H' : Hp}, Ext 1 ρ H n' ρ' H' → ∀ b o, H' b = some o → Free n' ρ' b → NTb o → H' b = some o ∧ Free 0 ρ b := fun x b o hb f _ => ⟨hb, fun z => f.1 (x.bans b z), fun i hi => absurd hi (Nat.not_lt_zero _)⟩
  have kp : ∀ {n' : Nat} {ρ' : Rho} {H' : Hp}, Ext 1 ρ H n' ρ' H' → Keeps1 ρ H H' := fun x => ⟨fun b o h f t => (x.keep b o h f t).1, x.bkeep⟩
  have tabs : ∀ {n' : Nat} {ρ' : Rho} {H' : Hp} {h' : AH}, Ext 1 ρ H n' ρ' H' → HRel w K Γ n' ρ' H' h' → TabF Γ.T 0 ρ H' := fun x hr => hr.tab.keep fun b o hb f => ⟨hb, fun z => f.1 (x.bans b z), fun i hi => absurd hi (Nat.not_lt_zero _)⟩
  cases e0 : φ ds with
  | none => rw [e0] at q; exact q.elim
  | some r0 =>
    have er := hφ ds r0 e0
    rw [e0] at q
    unfold runI at er
    cases e1 : sv (startE N.length (.ref 0 :: ds)) [.ins c []] with
    | none => rw [e1] at er; cases er
    | some r =>
      obtain ⟨fl, h1⟩ := r
      simp only [e1] at er
      have exc : ∀ (E' : Env') (c' : Str) (fs : List (Str × D)), some (Out.exc c' fs) = some r0 → PostS (cxOf (L2.CX P w) P w K mg base N qual scope f cdv A outer s H E) Γ 1 ρ H (fun cls d _ H => E cls d H) (some (.exc E' c' fs, h1)) { nx := fun _ H' => Q .non H', rt := Q } := fun E' c' fs er => by
        cases er
        refine fun σ' cls dd n' ρ' H' x hr' _ xr => q cls dd H' (kp x) (tabs x hr') ⟨xr.1, ?_⟩
        rcases xr.2 with z | ⟨a, fvs, z1, z2, z3, z4⟩
        · exact .inl z
        · exact .inr ⟨a, fvs, z1, z2, (back x a _ z2 z3 (fun _ z => by cases z)).2, z4.keep0 (back x)⟩
      cases e2 : at0 h1 with
      | none =>
        rw [e2] at er
        cases fl with
        | exc E' c' fs => exact exc E' c' fs er
        | _ => cases er
      | some ao =>
        rw [e2] at er
        cases ao with
        | ins c' fs =>
          simp only at er
          by_cases hc : decide (c' = c) = true
          · rw [if_pos hc] at er
            have ec := of_decide_eq_true hc
            subst ec
            cases fl with
            | next E' =>
              intro σ' n' ρ' H' x hr' _
              simp only [finI, e2] at er
              cases e3 : frzFs fs h1 with
              | none => rw [e3] at er; cases er
              | some p =>
                obtain ⟨fs', h2⟩ := p
                rw [e3] at er
                cases er
                obtain ⟨_, _, dx, fvs, g1, g2⟩ := hr'.at_ 0 _ (show h1[0]? = _ from e2)
                obtain ⟨ρ2, x2, hr2, r2⟩ := frzFs_ok (X := cxOf (L2.CX P w) P w K mg base N qual scope f cdv A outer s H E) hr' g2 e3
                exact q H' (kp x) (tabs x hr') ⟨dx, fvs, by rw [← x.same 0 (Nat.lt_succ_self _)]; exact g1, r2.keep0 (back (x.trans x2))⟩
            | exc E' c' fs => exact exc E' c' fs er
            | ret d => cases er
            | brk E' => cases er
            | cont E' => cases er
          · rw [if_neg hc] at er; cases er
        | _ =>
          cases fl with
          | exc E' c' fs => exact exc E' c' fs er
          | _ => cases er
end
end MP
set_option Elab.async false
set_option linter.all false
set_option maxRecDepth 100000
set_option maxHeartbeats 4000000
/-! MPS: chained comparisons, comprehensions of two clauses. -/
namespace MP
open PySem PySem.Spec PyProof.Rows L2
def chainR (f f' : D → D → AH → Option (D × AH)) (a b : D) (h : AH) (c : AH → Res D) : Res D := match f a b h with
  | some (.bl true, h1) => bindR (c h1) fun c h2 => opR (f' b c h2)
  | some (.bl false, h1) => okR (.bl false) h1
  | _ => none
def evChain (f f' : D → D → AH → Option (D × AH)) (fa fb fc : Ev) : Ev := fun E h => bindR (fa E h) fun a h1 => bindR (fb E h1) fun b h2 => chainR f f' a b h2 (fc E)
section
variable {X : Cx} {Γ : Gm} {W : WX} {pins : List (Addr × Obj)} {σ : L2.St} {H : Hp} {s : Shared} {n : Nat} {ρ : Rho} {h : AH} {E : Env'} {tg : Expr}
theorem chain_read {f f' : D → D → AH → Option (D × AH)} {fa fb fc : Ev} {σ : L2.St} {H : Hp} {Q : VK} (q : tD X Γ W (evChain f f' fa fb fc) σ H Q) : tChain (rD X Γ f) (rD X Γ f') (tD X Γ W fa) (tD X Γ W fb) (tD X Γ W fc) σ H Q := by
  obtain ⟨E, h, n, ρ, er, hr, q⟩ := q
  refine ⟨E, h, n, ρ, er, hr, (Post.bind (R := RelT X.w X.K Γ) q).imp fun x H1 ⟨a, h1, n1, ρ1, x1, hr1, ra, q1⟩ => ?_⟩
  refine ⟨E, h1, n1, ρ1, er.mono x1, hr1, (Post.bind (R := RelT X.w X.K Γ) q1).imp fun y H2 ⟨b, h2, n2, ρ2, x2, hr2, rb, q2⟩ => ?_⟩
  refine ⟨h2, n2, ρ2, a, b, hr2, ra.mono x2, rb, ?_⟩
  unfold chainR at q2
  cases e : f a b h2 with
  | none => rw [e] at q2; exact q2.elim
  | some p =>
    obtain ⟨d, h3⟩ := p
    rw [e] at q2
    cases d with
    | bl k =>
      intro v n3 ρ3 H3 x3 hr3 r3
      cases r3
      refine ⟨k, rfl, ?_⟩
      cases k with
      | true =>
        refine iteT ⟨E, h3, n3, ρ3, ((er.mono x1).mono x2).mono x3, hr3, (Post.bind (R := RelT X.w X.K Γ) (Post.mono x3 q2)).imp fun z H4 ⟨c, h4, n4, ρ4, x4, hr4, rc, q4⟩ => ⟨h4, n4, ρ4, b, c, hr4, (rb.mono x3).mono x4, rc, ?_⟩⟩
        cases e2 : f' b c h4 with
        | none => rw [e2] at q4; exact q4.elim
        | some p => obtain ⟨d, h5⟩ := p; rw [e2] at q4; exact q4
      | false => exact iteF (q2 _ n3 ρ3 H3 x3 hr3 (.bl _))
    | _ => exact q2.elim
theorem de_chain {a b c : Expr} {op op' : CmpOp} {pos : Pos} {f f' : D → D → AH → Option (D × AH)} {fa fb fc : Ev} (ho : OpR X (compareOp op) (rD X Γ f)) (ho' : OpR X (compareOp op') (rD X Γ f')) (ha : DE X Γ W a fa) (hb : DE X Γ W b fb) (hc : DE X Γ W c fc) (hm : lastMarks [op, op'] [b, c] = false) :
    DE X Γ W (.Compare a [op, op'] [b, c] pos) (evChain f f' fa fb fc) := PE.imp (pe_chain ho ho' ha hb hc hm) fun _ _ _ q => chain_read q
theorem dt_chain {a b c : Expr} {op op' : CmpOp} {pos : Pos} {f f' : D → D → AH → Option (D × AH)} {fa fb fc : Ev} (ho : OpR X (compareOp op) (rD X Γ f)) (ho' : OpR X (compareOp op') (rD X Γ f')) (ha : DE X Γ W a fa) (hb : DE X Γ W b fb) (hc : DE X Γ W c fc) (hm : lastMarks [op, op'] [b, c] = false) :
    DT X Γ W (.Compare a [op, op'] [b, c] pos) (tvOf (evChain f f' fa fb fc)) := PT.imp (pt_chain ho ho' ha hb hc hm) fun _ _ _ q => chain_read (tD_test q)
theorem EnvR.mono0 {n' : Nat} {ρ' : Rho} {H' : Hp} (x : Ext0 n ρ H n' ρ' H') (r : EnvR X Γ n ρ H E σ) : EnvR X Γ n' ρ' H' E σ := ⟨r.len, fun i d e => let ⟨v, a, b⟩ := r.at_ i d e; ⟨v, a, RelD.mono0 x (Nat.le_refl _) x.le b⟩⟩
theorem Ext0.trans {n1 n2 : Nat} {ρ1 ρ2 : Rho} {H1 H2 : Hp} (a : Ext0 n ρ H n1 ρ1 H1) (b : Ext0 n1 ρ1 H1 n2 ρ2 H2) : Ext0 n ρ H n2 ρ2 H2 :=
  ⟨Nat.le_trans a.le b.le, fun i hi => (b.same i (Nat.lt_of_lt_of_le hi a.le)).trans (a.same i hi), fun c o h f t => let ⟨h1, f1⟩ := a.keep c o h f t; b.keep c o h1 f1 t⟩
/-! ### two clauses -/
def lc2L (vs1 : List Nat) (t : Tg) (ft : Env' → AH → Res Bool) (fi : Env' → AH → Res (List D)) (t1 : Tg) (ft1 : Env' → AH → Res Bool) (fe : Ev) : List D → Env' → AH → Option (List D × AH)
  | [], _, h => some ([], h)
  | d :: ds, E, h => match asg t d E with
    | none => none
    | some E1 => match ft E1 h with
      | some (.ok false, h1) => lc2L vs1 t ft fi t1 ft1 fe ds E h1
      | some (.ok true, h1) => match fi E1 h1 with
        | some (.ok ds1, h2) => match lcL t1 ft1 fe ds1 (wipeE E1 vs1) h2 with
          | some (ys, h3) => match lc2L vs1 t ft fi t1 ft1 fe ds E h3 with
            | some (zs, h4) => some (ys ++ zs, h4)
            | none => none
          | none => none
        | _ => none
      | _ => none
def lc2R (mk : List D → AH → Res D) (vs1 : List Nat) (t : Tg) (ft : Env' → AH → Res Bool) (fi : Env' → AH → Res (List D)) (t1 : Tg) (ft1 : Env' → AH → Res Bool) (fe : Ev) (E0 : Env') (p : List D) (h : AH) : Res D := match lc2L vs1 t ft fi t1 ft1 fe p E0 h with
  | some (ys, h1) => if decide (ys.length ≤ sizeLine) = true then mk ys h1 else none
  | none => none
theorem lc2_read {mk : List D → AH → Res D} (hmk : MkOk mk) {J : It} {t t1 : Tg} {ft ft1 : Env' → AH → Res Bool} {fi : Env' → AH → Res (List D)} {fe : Ev} {vs vs1 : List Nat} {ds : List D} {Q : VK} {Wx : Value → Option Addr → Hp → Prop} (hS : ∀ i ∈ slots t, i ∈ vs) (hS1 : ∀ i ∈ slots t1, i ∈ vs1) (er : EnvR X Γ n ρ H E σ) (hr : HR X Γ n ρ H h) (ir : ItR X Γ n ρ H ds J)
    (q : PostE X Γ n ρ H Wx (lc2R mk vs1 t ft fi t1 ft1 fe (wipeE E vs) ds h) Q) : ∀ Dd, H Dd = none → ∃ Wi : Nat → Nat → Hp → Prop, (∃ m, Wi 0 m (upd H Dd (.lst []))) ∧ ∀ i m H, Wi i m H →
      (J.stop i H ∧ Q (.ref Dd) H) ∨ (J.go i H ∧ ∃ Nx : Hp → Prop, (∀ H', Nx H' → ∃ m', m' < m ∧ Wi (i + 1) m' H') ∧ ∀ x H', J.yld i H x H' → tgD X Γ (asg t) (slots t) x (L2.wipe σ vs) H' fun σ2 H2 => L2.wipe σ2 vs = L2.wipe σ vs ∧ tDT X Γ W0 ft σ2 H2 fun b H3 =>
        if b = true then tDI X Γ W0 fi σ2 H3 fun J1 H4 => ∃ W1 : Nat → Nat → Hp → Prop, (∃ m, W1 0 m H4) ∧ ∀ j k H, W1 j k H →
          (J1.stop j H ∧ Nx H) ∨ (J1.go j H ∧ ∃ Nx1 : Hp → Prop, (∀ H', Nx1 H' → ∃ k', k' < k ∧ W1 (j + 1) k' H') ∧ ∀ x H', J1.yld j H x H' → tgD X Γ (asg t1) (slots t1) x (L2.wipe σ2 vs1) H' fun σ3 H5 => L2.wipe σ3 vs1 = L2.wipe σ2 vs1 ∧ tDT X Γ W0 ft1 σ3 H5 fun b H6 =>
            if b = true then tD X Γ W0 fe σ3 H6 fun y H7 => ∃ acc, H7 Dd = some (.lst acc) ∧ acc.length < sizeLine ∧ Nx1 (upd H7 Dd (.lst (acc ++ [y]))) else Nx1 H6)
        else Nx H3) := by
  intro Dd hD
  unfold lc2R at q
  -- what is left, seen from the list so far
  let Rest : List D → AH → Option (List D × AH) → Prop := fun accd h' r => ∃ zs h3, r = some (zs, h3) ∧ (accd ++ zs).length ≤ sizeLine ∧ PostE X Γ n ρ H Wx (mk (accd ++ zs) h3) Q
  let At : Hp → List D → AH → Nat → Rho → Prop := fun H' accd h' n' ρ' => ∃ acc, Ext n ρ H n' ρ' H' ∧ ρ'.ban Dd ∧ H' Dd = some (.lst acc) ∧ RDs0 X Γ n' ρ' H' accd acc ∧ HR X Γ n' ρ' H' h'
  let Wi : Nat → Nat → Hp → Prop := fun i m H' => m + i = ds.length ∧ ∃ h' n' ρ' accd, At H' accd h' n' ρ' ∧ Rest accd h' (lc2L vs1 t ft fi t1 ft1 fe (ds.drop i) (wipeE E vs) h')
  refine ⟨Wi, ⟨ds.length, rfl, h, n, ban ρ Dd, [], ⟨[], Ext.banned hD, .inr rfl, upd_same, .nil, hr.banned hD⟩, ?_⟩, ?_⟩
  · cases e : lc2L vs1 t ft fi t1 ft1 fe ds (wipeE E vs) h with
    | none => rw [e] at q; exact q.elim
    | some r =>
      obtain ⟨ys, h2⟩ := r
      rw [e] at q
      simp only at q
      by_cases hz : decide (ys.length ≤ sizeLine) = true
      · rw [if_pos hz] at q
        exact ⟨ys, h2, e, of_decide_eq_true hz, q⟩
      · rw [if_neg hz] at q; exact q.elim
  · rintro i m H' ⟨hm, h', n', ρ', accd, ⟨acc, x, hb, hDd, ra, hr'⟩, zs, h2, el, hzl, q'⟩
    have er' : EnvR X Γ n' ρ' H' (wipeE E vs) (L2.wipe σ vs) := (er.wipe vs).mono x
    by_cases hi : i < ds.length
    · have hd : ds.drop i = ds[i] :: ds.drop (i + 1) := List.drop_eq_getElem_cons hi
      rw [hd, lc2L] at el
      obtain ⟨go, yl⟩ := (ir i n' ρ' H' h' x.toExt0 hr').1 ds[i] (List.getElem?_eq_getElem hi)
      refine .inr ⟨go, fun H'' => Wi (i + 1) (m - 1) H'', fun H'' z => ⟨m - 1, by omega, z⟩, fun y H1 hy => ?_⟩
      obtain ⟨n1, ρ1, x1, hr1, r1⟩ := yl y H1 hy
      cases e1 : asg t ds[i] (wipeE E vs) with
      | none => rw [e1] at el; cases el
      | some E1 =>
        rw [e1] at el
        simp only at el
        refine ⟨wipeE E vs, h', n1, ρ1, ds[i], er'.mono x1, hr1, r1, E1, e1, fun σ2 er2 s2 => ⟨wipe_same hS s2, E1, h', n1, ρ1, er2, hr1, ?_⟩⟩
        cases e2 : ft E1 h' with
        | none => rw [e2] at el; cases el
        | some r =>
          obtain ⟨o, h3⟩ := r
          rw [e2] at el
          cases o with
          | exc c fs => cases el
          | ok b =>
            intro b' n3 ρ3 H3 x3 hr3 eb
            subst eb
            cases b with
            | false =>
              refine iteF ⟨by omega, h3, n3, ρ3, accd, ⟨acc, (x.trans x1).trans x3, (x1.trans x3).bans _ hb, (x1.trans x3).bkeep _ _ hb hDd, ra.monoP (x1.trans x3), hr3⟩, zs, h2, el, hzl, q'⟩
            | true =>
              refine iteT ⟨E1, h3, n3, ρ3, er2.mono x3, hr3, ?_⟩
              simp only at el
              cases e4 : fi E1 h3 with
              | none => rw [e4] at el; cases el
              | some r4 =>
                obtain ⟨o4, h4⟩ := r4
                rw [e4] at el
                cases o4 with
                | exc c fs => cases el
                | ok ds1 =>
                  simp only at el
                  intro J1 n4 ρ4 H4 x4 hr4 ir1
                  have xa := (x1.trans x3).trans x4
                  have er4 : EnvR X Γ n4 ρ4 H4 (wipeE E1 vs1) (L2.wipe σ2 vs1) := ((er2.mono x3).mono x4).wipe vs1
                  cases e5 : lcL t1 ft1 fe ds1 (wipeE E1 vs1) h4 with
                  | none => rw [e5] at el; cases el
                  | some r5 =>
                    obtain ⟨ys5, h5⟩ := r5
                    simp only [e5] at el
                    cases e6 : lc2L vs1 t ft fi t1 ft1 fe (ds.drop (i + 1)) (wipeE E vs) h5 with
                    | none => rw [e6] at el; cases el
                    | some r6 =>
                      obtain ⟨zs6, h6⟩ := r6
                      rw [e6] at el
                      cases el
                      -- the inner loop
                      let W1 : Nat → Nat → Hp → Prop := fun j k H' => k + j = ds1.length ∧ ∃ h' n' ρ' accd, At H' accd h' n' ρ' ∧ Ext0 n4 ρ4 H4 n' ρ' H' ∧ ∃ ys, lcL t1 ft1 fe (ds1.drop j) (wipeE E1 vs1) h' = some (ys, h5) ∧ (accd ++ (ys ++ zs6)).length ≤ sizeLine ∧ PostE X Γ n ρ H Wx (mk (accd ++ (ys ++ zs6)) h2) Q
                      refine ⟨W1, ⟨ds1.length, rfl, h4, n4, ρ4, accd, ⟨acc, x.trans xa, xa.bans _ hb, xa.bkeep _ _ hb hDd, ra.monoP xa, hr4⟩, Ext0.refl, ys5, e5, hzl, q'⟩, ?_⟩
                      rintro j k H' ⟨hk, h', n', ρ', accd, ⟨acc, x, hb, hDd, ra, hr'⟩, x4', ys, el, hzl, q'⟩
                      have er' := er4.mono0 x4'
                      by_cases hj : j < ds1.length
                      · have hd1 : ds1.drop j = ds1[j] :: ds1.drop (j + 1) := List.drop_eq_getElem_cons hj
                        rw [hd1, lcL] at el
                        obtain ⟨go1, yl1⟩ := (ir1 j n' ρ' H' h' x4' hr').1 ds1[j] (List.getElem?_eq_getElem hj)
                        refine .inr ⟨go1, fun H'' => W1 (j + 1) (k - 1) H'', fun H'' z => ⟨k - 1, by omega, z⟩, fun y H7 hy => ?_⟩
                        obtain ⟨n7, ρ7, x7, hr7, r7⟩ := yl1 y H7 hy
                        cases e7 : asg t1 ds1[j] (wipeE E1 vs1) with
                        | none => rw [e7] at el; cases el
                        | some E7 =>
                          rw [e7] at el
                          simp only at el
                          refine ⟨wipeE E1 vs1, h', n7, ρ7, ds1[j], er'.mono x7, hr7, r7, E7, e7, fun σ3 er3 s3 => ⟨wipe_same hS1 s3, E7, h', n7, ρ7, er3, hr7, ?_⟩⟩
                          cases e8 : ft1 E7 h' with
                          | none => rw [e8] at el; cases el
                          | some r =>
                            obtain ⟨o, h8⟩ := r
                            rw [e8] at el
                            cases o with
                            | exc c fs => cases el
                            | ok b =>
                              intro b' n8 ρ8 H8 x8 hr8 eb
                              subst eb
                              cases b with
                              | false => exact iteF ⟨by omega, h8, n8, ρ8, accd, ⟨acc, (x.trans x7).trans x8, (x7.trans x8).bans _ hb, (x7.trans x8).bkeep _ _ hb hDd, ra.monoP (x7.trans x8), hr8⟩, x4'.trans (x7.trans x8).toExt0, ys, el, hzl, q'⟩
                              | true =>
                                refine iteT ⟨E7, h8, n8, ρ8, er3.mono x8, hr8, ?_⟩
                                simp only at el
                                cases e9 : fe E7 h8 with
                                | none => rw [e9] at el; cases el
                                | some r9 =>
                                  obtain ⟨o9, h9⟩ := r9
                                  rw [e9] at el
                                  cases o9 with
                                  | exc c fs => cases el
                                  | ok yd =>
                                    intro yv n9 ρ9 H9 x9 hr9 ry
                                    have xb := (x7.trans x8).trans x9
                                    have hb9 := xb.bans _ hb
                                    simp only at el
                                    cases ev : isV yd with
                                    | false => rw [ev] at el; cases el
                                    | true =>
                                      rw [ev] at el
                                      simp only at el
                                      cases e10 : lcL t1 ft1 fe (ds1.drop (j + 1)) (wipeE E1 vs1) h9 with
                                      | none => rw [e10] at el; cases el
                                      | some r10 =>
                                        obtain ⟨ys10, h10⟩ := r10
                                        rw [e10] at el
                                        cases el
                                        have hlen : accd.length < sizeLine := by
                                          rw [List.length_append, List.length_append, List.length_cons] at hzl
                                          omega
                                        refine ⟨acc, xb.bkeep _ _ hb hDd, by rw [← ra.length]; exact hlen, ?_⟩
                                        refine ⟨by omega, h9, n9, ρ9, accd ++ [yd], ⟨acc ++ [yv], (x.trans xb).overNew hD, hb9, upd_same, RelDs.mono0 (Ext0.over hb9) (Nat.zero_le _) (Nat.zero_le _) ((ra.monoP xb).append (.cons (ry.down ev) .nil)), hr9.over hb9⟩, (x4'.trans xb.toExt0).trans (Ext0.over hb9), ys10, e10, ?_, ?_⟩
                                        · rw [List.append_assoc]; exact hzl
                                        · rw [List.append_assoc]; exact q'
                      · have hd1 : ds1.drop j = [] := List.drop_of_length_le (by omega)
                        rw [hd1, lcL] at el
                        cases el
                        refine .inl ⟨(ir1 j n' ρ' H' h5 x4' hr').2 (by omega), by omega, h5, n', ρ', accd, ⟨acc, x, hb, hDd, ra, hr'⟩, zs6, h2, e6, hzl, q'⟩
    · have hd : ds.drop i = [] := List.drop_of_length_le (by omega)
      rw [hd, lc2L] at el
      cases el
      refine .inl ⟨(ir i n' ρ' H' h' x.toExt0 hr').2 (by omega), ?_⟩
      rw [List.append_nil] at q'
      exact hmk x hr hD hr' hb hDd ra q'
def evLc2 (mk : List D → AH → Res D) (own vs1 : List Nat) (t : Tg) (fi : Env' → AH → Res (List D)) (ft : Env' → AH → Res Bool) (t1 : Tg) (fi1 : Env' → AH → Res (List D)) (ft1 : Env' → AH → Res Bool) (fe : Ev) : Ev := fun E h => bindR (fi E h) (lc2R mk vs1 t ft fi1 t1 ft1 fe (wipeE E own))
theorem de_lc2 {mk : List D → AH → Res D} (hmk : MkOk mk) {elt iter tg1 iter1 : Expr} {ifs ifs1 : List Expr} {scope : Scope} {own : List (Str × Nat)} {vs1 : List Nat} {pos : Pos} {t t1 : Tg} {fi fi1 : Env' → AH → Res (List D)} {ft ft1 : Env' → AH → Res Bool} {fe : Ev} (hc : X.calm = true) (hN : X.N.Nodup) (pi : DI X Γ W tg iter fi) (ok : BlkOk X.N X.env.scope scope own) (hv : ∀ i ∈ vs1, i ∈ own.map (·.2))
    (hS : ∀ i ∈ slots t, i ∈ own.map (·.2)) (hS1 : ∀ i ∈ slots t1, i ∈ vs1) (hg : blkAll X scope fun Y => DG Y Γ tg t) (ht : blkAll X scope fun Y => DTs Y Γ W0 ifs ft) (hi1 : blkAll X scope fun Y => DI Y Γ W0 tg1 iter1 fi1) (hg1 : blkAll X scope fun Y => DG Y Γ tg1 t1) (ht1 : blkAll X scope fun Y => DTs Y Γ W0 ifs1 ft1) (he : blkAll X scope fun Y => DE Y Γ W0 elt fe)
    (hs : ∀ x, foldedSetIterable iter X.env x = pure x) (hs1 : ∀ env x, foldedSetIterable iter1 env x = pure x) :
    DE X Γ W (.ListComp elt [⟨tg, iter, ifs, 0⟩, ⟨tg1, iter1, ifs1, 0⟩] scope pos) (evLc2 mk (own.map (·.2)) vs1 t fi ft t1 fi1 ft1 fe) :=
  PE.imp (pe_lc2 (g := tgD X Γ (asg t) (slots t)) (tt := tDT X Γ W0 ft) (wi1 := tDI X Γ W0 fi1) (g1 := tgD X Γ (asg t1) (slots t1)) (tt1 := tDT X Γ W0 ft1) (te := tD X Γ W0 fe) hc hN pi ok hv hg ht hi1 hg1 ht1 he hs hs1) fun σ H Q ⟨E, h, n, ρ, er, hr, q⟩ => ⟨E, h, n, ρ, er, hr, (Post.bind (R := ItR X Γ) q).imp fun J H1 ⟨p, h1, n1, ρ1, x1, hr1, ir, q1⟩ => lc2_read hmk hS hS1 (er.mono x1) hr1 ir q1⟩
theorem ds_setLc2 {mk : List D → AH → Res D} (hmk : MkOk mk) {i : Nat} {y : Str} {py spos : Pos} {elt iter tg1 iter1 : Expr} {ifs ifs1 : List Expr} {scope : Scope} {own : List (Str × Nat)} {vs1 : List Nat} {pos : Pos} {t t1 : Tg} {fi fi1 : Env' → AH → Res (List D)} {ft ft1 : Env' → AH → Res Bool} {fe : Ev} (hc : X.calm = true) (hN : X.N.Nodup) (hy : X.N[i]? = some y) (hyl : X.env.scope.names.lookup y = some .local)
    (hsw : swapsWith (.ListComp elt [⟨tg, iter, ifs, 0⟩, ⟨tg1, iter1, ifs1, 0⟩] scope pos) (some (.Name y py)) spos.line X.env = pure true) (pi : DI X Γ W tg iter fi) (ok : BlkOk X.N X.env.scope scope own) (hv : ∀ i ∈ vs1, i ∈ own.map (·.2))
    (hS : ∀ i ∈ slots t, i ∈ own.map (·.2)) (hS1 : ∀ i ∈ slots t1, i ∈ vs1) (hg : blkAll X scope fun Y => DG Y Γ tg t) (ht : blkAll X scope fun Y => DTs Y Γ W0 ifs ft) (hi1 : blkAll X scope fun Y => DI Y Γ W0 tg1 iter1 fi1) (hg1 : blkAll X scope fun Y => DG Y Γ tg1 t1) (ht1 : blkAll X scope fun Y => DTs Y Γ W0 ifs1 ft1) (he : blkAll X scope fun Y => DE Y Γ W0 elt fe)
    (hs : ∀ x, foldedSetIterable iter X.env x = pure x) (hs1 : ∀ env x, foldedSetIterable iter1 env x = pure x) :
    DS X Γ W (.Assign [.Name y py] (.ListComp elt [⟨tg, iter, ifs, 0⟩, ⟨tg1, iter1, ifs1, 0⟩] scope pos) spos) (svSet i (evLc2 mk (own.map (·.2)) vs1 t fi ft t1 fi1 ft1 fe)) :=
  PS.imp (ps_setLc2 (g := tgD X Γ (asg t) (slots t)) (tt := tDT X Γ W0 ft) (wi1 := tDI X Γ W0 fi1) (g1 := tgD X Γ (asg t1) (slots t1)) (tt1 := tDT X Γ W0 ft1) (te := tD X Γ W0 fe) hc hN hy hyl hsw pi ok hv hg ht hi1 hg1 ht1 he hs hs1) fun Z σ H ⟨E, h, n, ρ, er, hr, q⟩ => by
    have q2 := PostS.expr (R := RelT X.w X.K Γ) er q
    refine ⟨E, h, n, ρ, er, hr, (Post.bind (R := ItR X Γ) q2).imp fun J H1 ⟨p, h1, n1, ρ1, x1, hr1, ir, q1⟩ => ?_⟩
    refine lc2_read hmk (Q := fun x H1 => gName i x σ H1 Z.nx) hS hS1 (er.mono x1) hr1 ir (q1.imp fun v H2 ⟨d, h2, n2, ρ2, x2, hr2, rd, q3⟩ => ?_)
    exact q3 _ n2 ρ2 H2 Ext.refl hr2 ((er.mono x2).set rd)
end
end MP
set_option Elab.async false
set_option linter.all false
set_option maxRecDepth 100000
set_option maxHeartbeats 4000000
/-! MPT: sorted. -/
namespace MP
open PySem PySem.Spec PyProof.Rows L2
/-- one item put in its place: behind those that it is not ahead of -/
def insS {α : Type} (le : α → α → Bool) (a : α) : List α → List α
  | [] => [a]
  | b :: r => match le a b with
    | true => a :: b :: r
    | false => b :: insS le a r
def sortS {α : Type} (le : α → α → Bool) : List α → List α
  | [] => []
  | a :: r => insS le a (sortS le r)
theorem insS_mid {α : Type} {le : α → α → Bool} {a : α} : ∀ {l₁ l₂ : List α}, (∀ b ∈ l₁, le a b = false) → (∀ b ∈ l₂, le a b = true) → insS le a (l₁ ++ l₂) = l₁ ++ a :: l₂
  | [], [], _, _ => rfl
  | [], b :: r, _, h2 => by
    show insS le a (b :: r) = _
    rw [insS, h2 b List.mem_cons_self]
    rfl
  | b :: l₁, l₂, h1, h2 => by
    show insS le a (b :: (l₁ ++ l₂)) = _
    rw [insS, h1 b List.mem_cons_self]
    show b :: insS le a (l₁ ++ l₂) = _
    rw [insS_mid (fun c hc => h1 c (List.mem_cons_of_mem _ hc)) h2]
    rfl
theorem sortS_eq {α : Type} {le : α → α → Bool} (tr : ∀ a b c, le a b = true → le b c = true → le a c = true) (tt : ∀ a b, (le a b || le b a) = true) : ∀ l : List α, l.mergeSort le = sortS le l
  | [] => by simp [sortS]
  | a :: l => by
    obtain ⟨l₁, l₂, e1, e2, e3⟩ := List.mergeSort_cons tr tt a l
    rw [e1, sortS, ← sortS_eq tr tt l, e2]
    refine (insS_mid (fun b hb => by simpa using e3 b hb) fun b hb => ?_).symm
    have pw := List.pairwise_mergeSort tr tt (a :: l)
    rw [e1] at pw
    exact (List.pairwise_cons.mp (List.pairwise_append.mp pw).2.1).1 b hb
open PySem.W (EachIs AllAlike Sortable alike alikeAll dataLe)
mutual
def alS : PyData → PyData → Bool
  | .none, .none => true
  | .bool _, .bool _ => true
  | .int _, .int _ => true
  | .str _, .str _ => true
  | .tuple xs, .tuple ys => alSs xs ys
  | _, _ => false
def alSs : List PyData → List PyData → Bool
  | [], [] => true
  | x :: xs, y :: ys => alS x y && alSs xs ys
  | _, _ => false
end
mutual
theorem alS_alike : ∀ {p q h : PyData}, alS p h = true → alS q h = true → alike p q = true
  | .none, q, h, e1, e2 => by cases h <;> simp [alS] at e1 <;> cases q <;> simp [alS] at e2 <;> rfl
  | .bool _, q, h, e1, e2 => by cases h <;> simp [alS] at e1 <;> cases q <;> simp [alS] at e2 <;> rfl
  | .int _, q, h, e1, e2 => by cases h <;> simp [alS] at e1 <;> cases q <;> simp [alS] at e2 <;> rfl
  | .str _, q, h, e1, e2 => by cases h <;> simp [alS] at e1 <;> cases q <;> simp [alS] at e2 <;> rfl
  | .tuple xs, q, h, e1, e2 => by
    cases h with
    | tuple hs =>
      cases q with
      | tuple ys =>
        rw [alS] at e1 e2
        rw [alike]
        exact alSs_alike e1 e2
      | _ => simp [alS] at e2
    | _ => simp [alS] at e1
  | .list _, q, h, e1, e2 => by cases h <;> simp [alS] at e1
  | .dict _, q, h, e1, e2 => by cases h <;> simp [alS] at e1
theorem alSs_alike : ∀ {xs ys hs : List PyData}, alSs xs hs = true → alSs ys hs = true → alikeAll xs ys = true
  | [], ys, hs, e1, e2 => by simp [alikeAll]
  | x :: xs, ys, hs, e1, e2 => by
    cases hs with
    | nil => simp [alSs] at e1
    | cons h hs =>
      cases ys with
      | nil => simp [alikeAll]
      | cons y ys =>
        rw [alSs, Bool.and_eq_true] at e1 e2
        rw [alikeAll, Bool.and_eq_true]
        exact ⟨alS_alike e1.1 e2.1, alSs_alike e1.2 e2.2⟩
end
def hdOk : PyData → Bool
  | .tuple (_ :: _) => true
  | .int _ => true
  | .str _ => true
  | .bool _ => true
  | _ => false
def canSort (ps : List PyData) : Bool := match ps with
  | [] => true
  | p :: _ => hdOk p && ps.all fun q => alS q p
theorem canSort_alike {ps : List PyData} (h : canSort ps = true) : AllAlike ps := by
  cases ps with
  | nil => intro d hd; cases hd
  | cons p ps =>
    unfold canSort at h
    rw [Bool.and_eq_true, List.all_eq_true] at h
    exact fun d hd d' hd' => alS_alike (h.2 d hd) (h.2 d' hd')
theorem canSort_sortable {ps : List PyData} (h : canSort ps = true) : Sortable ps := by
  cases ps with
  | nil => exact .inl fun d hd => by cases hd
  | cons p ps =>
    unfold canSort at h
    rw [Bool.and_eq_true, List.all_eq_true] at h
    obtain ⟨h1, h2⟩ := h
    cases p with
    | tuple xs =>
      cases xs with
      | nil => simp [hdOk] at h1
      | cons x xs =>
        refine .inl fun d hd => ?_
        have := h2 d hd
        cases d with
        | tuple ys =>
          cases ys with
          | nil => simp [alS, alSs] at this
          | cons y ys => exact ⟨y, ys, rfl⟩
        | _ => simp [alS] at this
    | int _ => exact .inr fun d hd => by have := h2 d hd; cases d <;> simp [alS] at this <;> simp
    | str _ => exact .inr fun d hd => by have := h2 d hd; cases d <;> simp [alS] at this <;> simp
    | bool _ => exact .inr fun d hd => by have := h2 d hd; cases d <;> simp [alS] at this <;> simp
    | _ => simp [hdOk] at h1
def encD (d : D) : PyData := (toD dp d).getD .none
/-- sorted, of values that are alike -/
def srtL (ds : List D) : Option (List D) := match allM (toD dp) ds with
  | some ps => if (canSort ps && decide (ds.length ≤ sizeLine)) = true then some (sortS (dataLe false encD) ds) else none
  | none => none
theorem allM_map : ∀ {ds : List D} {ps : List PyData}, allM (toD dp) ds = some ps → ds.map encD = ps ∧ ∀ d ∈ ds, toD dp d = some (encD d)
  | [], _, e => by cases e; exact ⟨rfl, fun d hd => by cases hd⟩
  | d :: ds, ps, e => by
    unfold allM at e
    cases e1 : toD dp d with
    | none => rw [e1] at e; cases e
    | some a =>
      cases e2 : allM (toD dp) ds with
      | none => rw [e1, e2] at e; cases e
      | some b =>
        rw [e1, e2] at e
        cases e
        obtain ⟨h1, h2⟩ := allM_map e2
        have ed : encD d = a := by unfold encD; rw [e1]; rfl
        refine ⟨by rw [List.map_cons, ed, h1], fun x hx => ?_⟩
        rcases List.mem_cons.mp hx with z | z
        · rw [z, ed]; exact e1
        · exact h2 x z
section
variable {X : Cx} {Γ : Gm} {W : WX} {pins : List (Addr × Obj)} {σ : L2.St} {H : Hp} {s : Shared} {n : Nat} {ρ : Rho} {h : AH}
def RVD (X : Cx) (Γ : Gm) (n : Nat) (ρ : Rho) (H : Hp) (v : Value) (d : D) : Prop := ∃ x, RD0 X Γ n ρ H d x ∧ RelV x v
theorem each_of : ∀ {ds : List D} {vs : List V} {us : List Value}, RDs0 X Γ n ρ H ds vs → Vals vs us → EachIs (RVD X Γ n ρ H) us ds
  | _, _, _, .nil, .nil => .nil
  | _, _, _, .cons r t, .cons rv tv => .cons ⟨_, r, rv⟩ (each_of t tv)
theorem of_each : ∀ {us : List Value} {ds : List D}, EachIs (RVD X Γ n ρ H) us ds → ∃ vs, RDs0 X Γ n ρ H ds vs ∧ Vals vs us
  | _, _, .nil => ⟨[], .nil, .nil⟩
  | _, _, .cons ⟨x, r, rv⟩ t => by
    obtain ⟨vs, a, b⟩ := of_each t
    exact ⟨x :: vs, .cons r a, .cons rv b⟩
theorem each_reads (I : Inv X pins σ H s) : ∀ {us : List Value} {ds : List D}, (∀ d ∈ ds, toD dp d = some (encD d)) → EachIs (RVD X Γ n ρ H) us ds → EachIs (fun v b => ∃ as, Reads s.heap v (encD b) as) us ds
  | _, _, _, .nil => .nil
  | _, _, h, .cons ⟨x, r, rv⟩ t => .cons (reads_of I dp 0 _ _ x _ (h _ List.mem_cons_self) r rv) (each_reads I (fun d hd => h d (List.mem_cons_of_mem _ hd)) t)
theorem srtL_sort {ds es : List D} (e : srtL ds = some es) : ∃ ps, allM (toD dp) ds = some ps ∧ canSort ps = true ∧ ds.length ≤ sizeLine ∧ es = ds.mergeSort (dataLe false encD) := by
  unfold srtL at e
  cases e1 : allM (toD dp) ds with
  | none => rw [e1] at e; cases e
  | some ps =>
    simp only [e1] at e
    by_cases hc : (canSort ps && decide (ds.length ≤ sizeLine)) = true
    · rw [if_pos hc] at e
      cases e
      obtain ⟨c1, c2⟩ := Bool.and_eq_true_iff.mp hc
      have T := PySem.W.sortLe_total (listOrd itemOrd) false fun b : D => PySem.W.keyToks (encD b)
      refine ⟨ps, rfl, c1, of_decide_eq_true c2, ?_⟩
      exact (sortS_eq T.trans (fun a b => by rcases T.total a b with z | z <;> rw [z] <;> simp) ds).symm
    · rw [if_neg hc] at e; cases e
def srtD (ds : List D) (h : AH) : Option (D × AH) := match ds with
  | [d] => match vw h d with
    | .lst xs => match srtL xs with
      | some ys => some (.lst ys, h)
      | none => none
    | _ => none
  | _ => none
theorem bf_srt (hu : X.A.units + 64 < cLine) : BfD X Γ (.builtin "sorted") srtD := by
  intro pins s σ H vs us Q h n ρ ds I rv hr rd q
  match ds, rd, rv, q with
  | [], _, _, q => exact q.elim
  | _ :: _ :: _, _, _, q => exact q.elim
  | [d], .cons r .nil, .cons r1 .nil, q =>
    simp only [srtD] at q
    cases e2 : vw h d with
    | lst xs =>
      simp only [e2] at q
      cases e3 : srtL xs with
      | none => rw [e3] at q; exact q.elim
      | some ys =>
        simp only [e3] at q
        obtain ⟨a, ws, rfl, hs, rs⟩ := vw_seq hr r e2
        cases r1
        obtain ⟨its, rvv, pl, hz⟩ := I.list hs
        obtain ⟨ps, m1, m2, m3, m4⟩ := srtL_sort e3
        obtain ⟨m5, m6⟩ := allM_map m1
        have ea := each_of rs rvv
        refine PySem.W.sorted_data (enc := encD) pl.isList ea (each_reads I m6 ea) (by rw [m5]; exact canSort_alike m2) (by rw [m5]; exact canSort_sortable m2) m3 (fun b hb => ?_) fun out hl eo => ?_
        · have z : (encD b).depth ≤ 16 := toD_depth (m6 b hb)
          omega
        · rw [← m4] at eo
          obtain ⟨os, o1, o2⟩ := of_each eo
          obtain ⟨ct, hat⟩ := sortedAll_at s.heap its (List.toArray out)
          have hp : H (s.heap.objs.size + 1) = none := I.hok.fresh (Nat.le_succ _)
          have new : ObjOk X.prog X.w (upd H (s.heap.objs.size + 1) (.lst os)) (sortedAll s.heap its (List.toArray out)) (s.heap.objs.size + 1) (.lst os) := ⟨by rw [o2.length, hl]; exact m3, out, ct, o2, hat⟩
          exact ⟨.ref (s.heap.objs.size + 1), _, I.laid (t' := s.toks) (fun b o hb => sortedAll_old hb) (Nat.le_succ _) new, rfl, postLst hr o1 hp q⟩
    | _ => rw [e2] at q; exact q.elim
end
end MP
set_option Elab.async false
set_option linter.all false
set_option maxRecDepth 100000
set_option maxHeartbeats 4000000
/-! MPU: sorted, list, tuple of a dict. -/
namespace MP
open PySem PySem.Spec PyProof.Rows L2
open PySem.W (EachIs AllAlike Sortable dataLe KdlSrc)
section
variable {X : Cx} {Γ : Gm} {W : WX} {pins : List (Addr × Obj)} {σ : L2.St} {H : Hp} {s : Shared} {n : Nat} {ρ : Rho} {h : AH}
/-- the keys, as they are drawn from the dict's entries -/
theorem keys_each : ∀ {kvs : List (D × D)} {es : List DictEntry}, RelKs X.w X.K Γ n ρ H kvs es → EachIs (RVD X Γ n ρ H) (es.map (·.key)) (kvs.map (·.1))
  | _, _, .nil => .nil
  | _, _, .cons r a _ _ _ _ t => .cons ⟨_, r, a⟩ (keys_each t)
theorem keys_list {es : Array DictEntry} {acc : List Value} (hl : acc.length = es.size) (h : ∀ (j : Nat) (v : Value), acc[j]? = some v → ∃ hi : j < es.size, v = es[j].key) : acc = es.toList.map (·.key) := by
  apply List.ext_getElem?
  intro j
  by_cases hj : j < acc.length
  · obtain ⟨hi, e⟩ := h j acc[j] (List.getElem?_eq_getElem hj)
    rw [List.getElem?_eq_getElem hj, List.getElem?_map, Array.getElem?_toList, Array.getElem?_eq_getElem hi, e]
    rfl
  · rw [List.getElem?_eq_none (by omega), List.getElem?_eq_none (by rw [List.length_map, Array.length_toList]; omega)]
theorem sorted_keys {kvs : List (D × D)} {a : Addr} {o : Obj} {es : Array DictEntry} {ep : Nat} {ys : List D} {Q : VK} (hu : X.A.units + 64 < cLine) (hc : X.calm = true) (I : Inv X pins σ H s) (hr : HR X Γ n ρ H h) (da : DAt X Γ n ρ H s.heap a o es ep kvs) (e : srtL (kvs.map (·.1)) = some ys)
    (q : PostO X Γ n ρ H (some (.lst ys, h)) Q) : wpAny (model X.prog X.w) X.A (call (.builtin "sorted") [.ref a]) (EP X pins σ Q) X.xe s := by
  obtain ⟨ps, m1, m2, m3, m4⟩ := srtL_sort e
  obtain ⟨m5, m6⟩ := allM_map m1
  have hsz : es.size ≤ sizeLine := by rw [← Array.length_toList, ← da.rel.length]; rw [List.length_map] at m3; exact m3
  refine Calls.call_function_entry kind_sorted plain_sorted entry_sorted (args_sorted1 _) ?_
  unfold Builtin.«sorted»
  refine wpAny_bind (m := checkCount "sorted" 1 1 _) (wpAny_pure (wpAny_bind (PySem.W.kdu_collect (A := X.A.in1) (KdlSrc.rawDict da.sys) (I.ok.hd hc) ⟨o, da.get, da.ex, da.dat⟩ hsz fun h' tk acc hk hacc => ?_)))
  have hl : acc.toList.length = es.size := by rw [Array.length_toList]; exact hacc.1
  have ek : acc.toList = es.toList.map (·.key) := keys_list hl fun j v z => hacc.2 j v (by rw [← Array.getElem?_toList]; exact z)
  have I1 : Inv X pins σ H { s with heap := h', toks := tk } := I.kept hk
  have ea : EachIs (RVD X Γ n ρ H) acc.toList (kvs.map (·.1)) := by rw [ek]; exact keys_each da.rel
  refine wpAny_bind (wpAny_newList ?_ (by rw [hl]; exact hsz))
  have I2 : Inv X pins σ H { s with heap := h'.push (seqObj "list" acc.toList.toArray 0), toks := tk } := I1.kept fun b ob z => Heap.get?_push_of_some _ z
  have hnew : (h'.push (seqObj "list" acc.toList.toArray 0)).get? h'.objs.size = some (seqObj "list" acc.toList.toArray 0) := Heap.get?_push_size _ rfl
  have hp : H h'.objs.size = none := I1.hok.fresh (Nat.le_refl _)
  have old : ∀ b ob, h'.get? b = some ob → (h'.push (seqObj "list" acc.toList.toArray 0)).get? b = some ob := fun b ob z => Heap.get?_push_of_some _ z
  have er : EachIs (fun v b => ∃ as, Reads (h'.push (seqObj "list" acc.toList.toArray 0)) v (encD b) as ∧ h'.objs.size ∉ as) acc.toList (kvs.map (·.1)) := by
    refine (each_reads I1 m6 ea).mono fun v b ⟨as, r⟩ => ⟨as, PyProof.Rows.Reads.keeps (fun b ob z => old b ob z) r, fun z => ?_⟩
    obtain ⟨ob, hob⟩ := PyProof.On.reads_mem_get r _ z
    exact absurd (Heap.lt_size hob) (Nat.lt_irrefl _)
  refine wpAny_bind (wpAny_holding (wpAny_mono (PySem.W.list_sort_data (s := { s with heap := h'.push (seqObj "list" acc.toList.toArray 0), toks := tk }) (A := X.A.in1) (enc := encD) hnew ea er (by rw [m5]; exact canSort_alike m2) (by rw [m5]; exact canSort_sortable m2) m3 (fun b hb => ?_) (Q := fun _ s' => EP X pins σ Q (.ref h'.objs.size) s') fun out hlo eo => ?_) (fun _ s' z => wpAny_pure ⟨_, rfl, z⟩) fun _ _ z => z))
  · have z : (encD b).depth ≤ 16 := toD_depth (m6 b hb)
    rw [Around.in1_units]
    omega
  · rw [← m4] at eo
    obtain ⟨os, o1, o2⟩ := of_each eo
    obtain ⟨ct, hat⟩ := sortedHeap_at (out := List.toArray out) hnew
    have new : ObjOk X.prog X.w (upd H h'.objs.size (.lst os)) (sortedHeap (h'.push (seqObj "list" acc.toList.toArray 0)) h'.objs.size acc.toList (List.toArray out)) h'.objs.size (.lst os) := ⟨by rw [o2.length, hlo]; exact m3, out, ct, o2, hat⟩
    refine ⟨.ref h'.objs.size, _, I1.laid (t' := tk) (fun b ob hb => ?_) (Nat.le_refl _) new, rfl, postLst hr o1 hp q⟩
    have hlt := Heap.lt_size hb
    rw [sortedHeap_old (Nat.ne_of_lt hlt) (by rw [Heap.size_push]; exact Nat.lt_succ_of_lt hlt)]
    exact old b ob hb
def srtA (ds : List D) (h : AH) : Option (D × AH) := match ds with
  | [d] => match dcV h d with
    | some kvs => match srtL (kvs.map (·.1)) with
      | some ys => some (.lst ys, h)
      | none => none
    | none => srtD [d] h
  | _ => none
theorem bf_srtA (hu : X.A.units + 64 < cLine) (hc : X.calm = true) : BfD X Γ (.builtin "sorted") srtA := by
  intro pins s σ H vs us Q h n ρ ds I rv hr rd q
  match ds, rd, rv, q with
  | [], _, _, q => exact q.elim
  | _ :: _ :: _, _, _, q => exact q.elim
  | [d], .cons r .nil, .cons r1 .nil, q =>
    simp only [srtA] at q
    cases e : dcV h d with
    | none => rw [e] at q; exact bf_srt hu pins s σ H _ _ Q h n ρ [d] I (.cons r1 .nil) hr (.cons r .nil) q
    | some kvs =>
      simp only [e] at q
      cases e2 : srtL (kvs.map (·.1)) with
      | none => rw [e2] at q; exact q.elim
      | some ys =>
        rw [e2] at q
        obtain ⟨a, o, es, ep, rfl, da⟩ := dcV_at I hr r e
        cases r1
        exact sorted_keys hu hc I hr da e2 q
/-! ### list(d) -/
def lstA (ds : List D) (h : AH) : Option (D × AH) := match ds with
  | [d] => match dcV h d with
    | some kvs => if decide (kvs.length ≤ sizeLine) = true then some (.lst (kvs.map (·.1)), h) else none
    | none => lstD [d] h
  | _ => none
theorem bf_lstA (hc : X.calm = true) : BfD X Γ (.type "list") lstA := by
  intro pins s σ H vs us Q h n ρ ds I rv hr rd q
  match ds, rd, rv, q with
  | [], _, _, q => exact q.elim
  | _ :: _ :: _, _, _, q => exact q.elim
  | [d], .cons r .nil, .cons r1 .nil, q =>
    simp only [lstA] at q
    cases e : dcV h d with
    | none => rw [e] at q; exact bf_lst pins s σ H _ _ Q h n ρ [d] I (.cons r1 .nil) hr (.cons r .nil) q
    | some kvs =>
      simp only [e] at q
      by_cases hz : decide (kvs.length ≤ sizeLine) = true
      · rw [if_pos hz] at q
        obtain ⟨a, o, es, ep, rfl, da⟩ := dcV_at I hr r e
        cases r1
        have hz := of_decide_eq_true hz
        have hsz : es.size ≤ sizeLine := by rw [← Array.length_toList, ← da.rel.length]; exact hz
        refine PySem.W.kdl_call (KdlSrc.rawDict da.sys) (I.ok.hd hc) ⟨o, da.get, da.ex, da.dat⟩ hsz fun h' tk acc c' hk hat hacc => ?_
        have hl : acc.toList.length = es.size := by rw [Array.length_toList]; exact hacc.1
        have ek : acc.toList = es.toList.map (·.key) := keys_list hl fun j v z => hacc.2 j v (by rw [← Array.getElem?_toList]; exact z)
        have ea : EachIs (RVD X Γ n ρ H) acc.toList (kvs.map (·.1)) := by rw [ek]; exact keys_each da.rel
        obtain ⟨os, o1, o2⟩ := of_each ea
        have new : ObjOk X.prog X.w (upd H s.heap.objs.size (.lst os)) h' s.heap.objs.size (.lst os) := ⟨by rw [o2.length, hl]; exact hsz, acc.toList, c', o2, by simpa using hat⟩
        exact ⟨.ref s.heap.objs.size, _, I.laid (t' := tk) hk (Nat.le_refl _) new, rfl, postLst hr o1 (I.hok.fresh (Nat.le_refl _)) q⟩
      · rw [if_neg hz] at q; exact q.elim
/-! ### tuple(d) -/
theorem new_tup {prog : Program} {w : World} {A : Around} {E : Value → Shared → Prop} {s : Shared} {r d : Addr} {m : Nat} {P : Nat → Value → Prop} {OK : Heap → Prop} {Q : Value → Shared → Prop} (K : KdlSrc prog w "dict" r d m P OK) (hh : A.handled = none) (hok : OK s.heap) (hm : m ≤ sizeLine)
    (h : ∀ (h' : Heap) (tk : Nat) (acc : Array Value), (∀ b o, s.heap.get? b = some o → h'.get? b = some o) → ItemsOf P acc m → Q (.ref h'.objs.size) { s with heap := h'.push { cls := .type "tuple", data := .seq acc }, toks := tk }) :
    codeAny (model prog w) A (.call (.builtin "tuple.__new__") ⟨[.type "tuple", .ref r], []⟩) (wants Q E) s := by
  refine codeAny_of_tree ?_
  change wpAny _ A.in1 (do checkBuiltinCall "tuple.__new__" ⟨[.type "tuple", .ref r], []⟩; again (.builtin "tuple.__new__" ⟨[.type "tuple", .ref r], []⟩)) _ _ s
  refine wpAny_bind (wpAny_of_eq (F.newCall_tuple_1 _) (wpAny_pure ⟨plainId_quiet F.plain_tuple_new _, codeAny_builtin F.entry_tuple_new ?_⟩))
  rw [Around.under_plainId F.plain_tuple_new _]
  have hsub := sub_tuple_self
  have hinit := init_tuple_lookup
  have hmh := madeHere_tuple
  have ty := K.type s hok
  have h1 : A.in1.handled = none := hh
  wp_walk using wpAny_typeOf ty, PySem.W.kdu_collect (A := A.in1) K h1 hok hm
  intro h' tk acc hk hacc
  change wpAny _ _ (Builtin.Tuple.tupleExact acc.toList.toArray >>= fun v => ret v) _ _ _
  unfold Builtin.Tuple.tupleExact
  refine wpAny_bind (wpAny_newObj_type (wpAny_pure ?_) (by show acc.toList.toArray.size ≤ sizeLine; rw [List.size_toArray, Array.length_toList, hacc.1]; exact hm))
  rw [show acc.toList.toArray = acc by simp]
  exact h h' tk acc hk hacc
def tupA (ds : List D) (h : AH) : Option (D × AH) := match ds with
  | [d] => match dcV h d with
    | some kvs => if (decide (kvs.length ≤ sizeLine) && !allUP (kvs.map (·.1))) = true then some (.tup (kvs.map (·.1)), h) else none
    | none => tupD [d] h
  | _ => none
theorem bf_tupA (hc : X.calm = true) : BfD X Γ (.type "tuple") tupA := by
  intro pins s σ H vs us Q h n ρ ds I rv hr rd q
  match ds, rd, rv, q with
  | [], _, _, q => exact q.elim
  | _ :: _ :: _, _, _, q => exact q.elim
  | [d], .cons r .nil, .cons r1 .nil, q =>
    simp only [tupA] at q
    cases e : dcV h d with
    | none => rw [e] at q; exact bf_tup pins s σ H _ _ Q h n ρ [d] I (.cons r1 .nil) hr (.cons r .nil) q
    | some kvs =>
      simp only [e] at q
      by_cases hz : (decide (kvs.length ≤ sizeLine) && !allUP (kvs.map (·.1))) = true
      · rw [if_pos hz] at q
        obtain ⟨a, o, es, ep, rfl, da⟩ := dcV_at I hr r e
        cases r1
        obtain ⟨hz, hup⟩ := Bool.and_eq_true_iff.mp hz
        have hz := of_decide_eq_true hz
        have hup : allUP (kvs.map (·.1)) = false := by simpa using hup
        have hsz : es.size ≤ sizeLine := by rw [← Array.length_toList, ← da.rel.length]; exact hz
        refine callType_codes (Q₁ := fun obj s₁ => s₁.TypeIs obj "tuple" ∧ EP X pins σ Q obj s₁) F.called_tuple (F.typeCall_tuple_1 _) F.entry_object_init
          (new_tup (A := X.A.in1) (KdlSrc.rawDict da.sys) (I.ok.hd hc) ⟨o, da.get, da.ex, da.dat⟩ hsz fun h' tk acc hk hacc => ⟨⟨_, Heap.get?_push_size _ rfl, rfl⟩, ?_⟩) fun obj s₁ h₁ => ⟨h₁.1, F.args_object_init_2 obj _, object_init_meets F.called_tuple.init.lookup F.called_tuple.made (by decide) X.prog X.w X.A.in1 _ s₁ ⟨h₁.1, rfl, h₁.2⟩⟩
        have hl : acc.toList.length = es.size := by rw [Array.length_toList]; exact hacc.1
        have ek : acc.toList = es.toList.map (·.key) := keys_list hl fun j v z => hacc.2 j v (by rw [← Array.getElem?_toList]; exact z)
        have ea : EachIs (RVD X Γ n ρ H) acc.toList (kvs.map (·.1)) := by rw [ek]; exact keys_each da.rel
        obtain ⟨os, o1, o2⟩ := of_each ea
        have I1 : Inv X pins σ H { s with heap := h', toks := tk } := I.kept hk
        have new : ObjOk X.prog X.w (upd H h'.objs.size (.tup os)) (h'.push { cls := .type "tuple", data := .seq acc }) h'.objs.size (.tup os) := ⟨by rw [o2.length, hl]; exact hsz, acc.toList, o2, ⟨_, Heap.get?_push_size _ rfl, rfl, 0, by simp⟩⟩
        exact ⟨.ref h'.objs.size, _, I1.laid (t' := tk) (fun b ob z => Heap.get?_push_of_some _ z) (Nat.le_refl _) new, rfl, postTup hr o1 (I1.hok.fresh (Nat.le_refl _)) hup q⟩
      · rw [if_neg hz] at q; exact q.elim
end
end MP
set_option Elab.async false
set_option linter.all false
set_option maxRecDepth 100000
set_option maxHeartbeats 4000000
/-! MPV: new dicts. -/
namespace MP
open PySem PySem.Spec PyProof.Rows L2
section
variable {X : Cx} {Γ : Gm} {W : WX} {pins : List (Addr × Obj)} {σ : L2.St} {H : Hp} {s : Shared} {n : Nat} {ρ : Rho} {h : AH}
/-- a known dict object, as it lies -/
theorem hd_ok {P : Program} {w : World} {H : Hp} {h : Heap} {a : Addr} {o : Obj} (e : h.get? a = some o) : ObjOk P w H h a (HD a o) := ⟨e, ⟨o, e⟩, fun h1 h2 p k => k _ p⟩
def mkDctM (h : AH) : Res D := okR (.ref h.length) (h ++ [.dct []])
def evDct0 : Ev := fun _ h => mkDctM h
abbrev emptyD : Obj := { cls := .type "dict", data := .dict #[] }
theorem de_dct0 {pos : Pos} : DE X Γ W (.Dict [] [] pos) evDct0 := by
  refine ⟨fun pins s σ H Q I ⟨E, h, n, ρ, er, hr, q⟩ => ?_⟩
  have hp : H s.heap.objs.size = none := I.hok.fresh (Nat.le_refl _)
  have hg : (s.heap.push emptyD).get? s.heap.objs.size = some emptyD := Heap.get?_push_size _ rfl
  refine wpAny_Dict_empty ⟨.ref s.heap.objs.size, _, I.laid (a := s.heap.objs.size) (o := HD s.heap.objs.size emptyD) (t' := s.toks) (fun _ _ q => Heap.get?_push_of_some _ q) (Nat.le_refl _) (hd_ok hg), rfl, ?_⟩
  have x2 := Ext.track (n := n) (ρ := ρ) (o := HD s.heap.objs.size emptyD) hp
  have sys : (s.heap.objs.size == sysModules) = false := beq_eq_false_iff_ne.mpr (Nat.ne_of_gt I.big)
  exact q _ (n + 1) (put ρ n s.heap.objs.size) _ x2 (hr.track hp ⟨put_nfz, emptyD, #[], 0, upd_same, ⟨rfl, rfl, rfl⟩, rfl, sys, List.nodup_nil, .nil⟩) (ref_new hr)
end
end MP
set_option Elab.async false
set_option linter.all false
set_option maxRecDepth 100000
set_option maxHeartbeats 4000000
/-! MPW: len of own objects. -/
namespace MP
open PySem PySem.Spec PyProof.Rows L2
section
variable {X : Cx} {Γ : Gm} {W : WX} {pins : List (Addr × Obj)} {σ : L2.St} {H : Hp} {s : Shared} {n : Nat} {ρ : Rho} {h : AH}
/-- an own special method is looked up and called -/
theorem cs_own {M : Model} {A : Around} {E : Value → Shared → Prop} {name : Str} {self : Value} {args : List Value} {f : Addr} {Q : Option Value → Shared → Prop} (sp : PySem.W.Looks M s.heap (specialOf self name) (some (.ref f))) (bn : PySem.W.Looks M s.heap (bindSpecial (.ref f) self) (.ref f, [self]))
    (hcall : wpAny M A (call (.ref f) (self :: args)) (fun v => Q (some v)) E s) : wpAny M A (callSpecial? self name args) Q E s := by
  simp only [callSpecial?]
  refine wpAny_bind (sp.here (wpAny_holding (wpAny_bind (bn.here ?_))))
  first
    | exact wpAny_bind (wpAny_mono hcall (fun v s' z => wpAny_pure z) fun _ _ z => z)
    | exact wpAny_pure (wpAny_bind (wpAny_mono hcall (fun v s' z => wpAny_pure z) fun _ _ z => z))
theorem len_own' {a dx C f : Addr} {fvs : List (Str × V)} {fd : FuncData} {sp : Sp} {k : Nat} {Q : VK} (I : Inv X pins σ H s) (ea : H a = some (.ins C dx fvs)) (me : Meth X.K C "__len__" f) (F : FnOk X.prog X.w X.K X.mg X.base (L2.CX X.prog X.w) k f fd ["self"] sp) (hr : Room (k + 1) X.A) (hb : Binds X.K fd ["self"] [])
    (h : sp [.ref a] H (fun v H' => ∃ i : Int, v = .int i ∧ 0 ≤ i ∧ i < 2 ^ 63 ∧ Q (.int i) H') (fun _ _ _ => False)) : wpAny (model X.prog X.w) X.A (call (.builtin "len") [.ref a]) (EP X pins σ Q) X.xe s := by
  obtain ⟨mA, O, _, _, _, _⟩ := ins_get I.hok ea
  have look : PySem.W.Looks (model X.prog X.w) s.heap (specialOf (.ref a) "__len__") (some (.ref f)) := (NwA.type_at O.obj rfl).andThen (PySem.W.looks_findIn I.kIn me.at_)
  refine len_by (cs_own look (PySem.W.bind_fn I.kIn (.ref a) (beq_iff_eq.mp me.fn)) (wpAny_call (codeAny_mono (F.run X.A.in1 X.stack s H ⟨[.ref a], []⟩ [.ref a] [.ref a] _ _ hr.in1 I.env0.in1 (hb s [.ref a] I.kIn rfl) (.cons rfl .nil) h) fun r s' hq => ?_)))
  cases r with
  | error er =>
    obtain ⟨_, _, _, _, _, _, _, _, _, _, _, _, z⟩ := hq
    exact z.elim
  | ok fl =>
    cases fl with
    | ret u =>
      obtain ⟨v, H', I3, rv, i, ev, h0, h1, q⟩ := I.after hq
      subst ev
      obtain ⟨t, rfl⟩ := rv
      exact ⟨i, t, rfl, h0, h1, ⟨.int i, H', I3.tok _, ⟨_, rfl⟩, q⟩⟩
    | next => exact hq.elim
    | brk => exact hq.elim
    | cont => exact hq.elim
/-- len(e), own objects too -/
def lenA (tab : Str → Option Fn) (ds : List D) (h : AH) : Option (D × AH) := match ds with
  | [d] => match frzR d h with
    | some (d', h1) => match d' with
      | .obj c _ => match tab c with
        | some φ => match φ [d'] with
          | some (.ok (.int i)) => if (decide (0 ≤ i) && decide (i < 2 ^ 63)) = true then some (.int i, h1) else none
          | _ => none
        | none => none
      | _ => lenD [d] h
    | none => none
  | _ => none
theorem bf_lenA {tab : Str → Option Fn} {k : Nat} (hr0 : Room (k + 1) X.A) (ht : ∀ c φ, tab c = some φ → ∃ f fd, Meth X.K (Γ c) "__len__" f ∧ FnOk X.prog X.w X.K X.mg X.base (L2.CX X.prog X.w) k f fd ["self"] (spP X.w X.K Γ 1 φ) ∧ Binds X.K fd ["self"] []) : BfD X Γ (.builtin "len") (lenA tab) := by
  intro pins s σ H vs us Q h n ρ ds I rv hr rd q
  match ds, rd, rv, q with
  | [], _, _, q => exact q.elim
  | _ :: _ :: _, _, _, q => exact q.elim
  | [d], .cons r .nil, .cons r1 .nil, q =>
    simp only [lenA] at q
    cases e1 : frzR d h with
    | none => rw [e1] at q; exact q.elim
    | some p =>
      obtain ⟨d', h1⟩ := p
      simp only [e1] at q
      cases d' with
      | obj c fs =>
        obtain ⟨ρ1, x1, hr1, r2⟩ := frzR_ok hr r e1
        simp only at q
        cases e2 : tab c with
        | none => rw [e2] at q; exact q.elim
        | some φ =>
          simp only [e2] at q
          obtain ⟨f, fd, me, F, hb⟩ := ht c φ e2
          obtain ⟨a, dx, fvs, rfl, g1, _⟩ := r2.obj_at
          cases r1
          refine len_own' I g1 me F hr0 hb ⟨rfl, [.obj c fs], lend n ρ1, lend_live hr1, lend_tab hr1.tab, RelDs.keep0 (fun b o hb f _ => ⟨hb, lend_free.mpr f⟩) (.cons r2 .nil), ?_⟩
          cases e3 : φ [.obj c fs] with
          | none => rw [e3] at q; exact q.elim
          | some o =>
            rw [e3] at q
            cases o with
            | exc c' fs' => exact q.elim
            | ok v =>
              cases v with
              | int i =>
                simp only at q
                by_cases hc : (decide (0 ≤ i) && decide (i < 2 ^ 63)) = true
                · rw [if_pos hc] at q
                  obtain ⟨c1, c2⟩ := Bool.and_eq_true_iff.mp hc
                  intro v H' x t rv
                  cases rv
                  exact ⟨i, rfl, of_decide_eq_true c1, of_decide_eq_true c2, q _ n ρ1 H' (x1.trans (lend_ext x)) (lend_back hr1 x t) (.int _)⟩
                · rw [if_neg hc] at q; exact q.elim
              | _ => exact q.elim
      | _ => exact bf_len pins s σ H _ _ Q h n ρ [d] I (.cons r1 .nil) hr (.cons r .nil) q
end
end MP
set_option Elab.async false
set_option linter.all false
set_option maxRecDepth 100000
set_option maxHeartbeats 4000000
/-! MPX: raise. -/
namespace MP
open PySem PySem.Spec PyProof.Rows L2
section
variable {X : Cx} {Γ : Gm} {W : WX} {pins : List (Addr × Obj)} {σ : L2.St} {H : Hp} {s : Shared} {n : Nat} {ρ : Rho} {h : AH}
/-- raise C(e), nothing of its own kept -/
def svRaise (c : Str) (f : Ev) : Sv := fun E h => bindE (f E h) E fun _ h1 => some (.exc E c [], h1)
theorem ds_raise {x c : Str} {e : Expr} {p pos pos' : Pos} {f : Ev} {bmB : List Value} {B newId initId : String} (hc : X.calm = true) (tk : Takes X W) (F : ExcBaseFacts B newId initId bmB) (q : PySem.W.excIn X.K (Γ c) bmB newId = true) (gC : X.mg x = some (.ref (Γ c))) (kC : PySem.W.keepIn X.K (.ref (Γ c)) = true) (r : Raises X (.ref (Γ c))) (hg : Gl X x)
    (he : DE X Γ W e f) (hs : starEach [e] X.env = (false, eval e X.env) :: starEach [] X.env) (hdb : (x == ("__debug__" : Str)) = false) : DS X Γ W (.Raise (some (.Call (.Name x p) [e] [] pos)) none pos') (svRaise c f) :=
  PS.imp (ps_raise hc tk (SkE.pmk_own1 F q gC kC r hg he hs hdb)) fun Z σ H ⟨E, h, n, ρ, er, hr, q⟩ => ⟨E, h, n, ρ, er, hr, (PostS.expr (R := RelT X.w X.K Γ) er q).imp fun v H1 ⟨d, h1, n1, ρ1, y, hr1, rd, q1⟩ => q1 σ _ none n1 ρ1 H1 Ext.refl hr1 (er.mono y) ⟨rfl, .inl ⟨rfl, rfl⟩⟩⟩
end
end MP
set_option Elab.async false
set_option linter.all false
set_option maxRecDepth 100000
set_option maxHeartbeats 4000000
/-! MPY: isinstance with a tuple of classes. -/
namespace MP
open PySem PySem.Spec PyProof.Rows L2
section
variable {X : Cx} {Γ : Gm} {W : WX} {pins : List (Addr × Obj)} {σ : L2.St} {H : Hp} {s : Shared} {n : Nat} {ρ : Rho} {h : AH}
structure IsaOks (X : Cx) (Γ : Gm) (us : List Value) (isa : Tag → Option Bool) : Prop where
  own : ∀ (c : Str) (b : Bool), isa (.o c) = some b → OwnC X.K (Γ c)
  kit : ∀ (t : Tag) (b : Bool), isa t = some b → PySem.W.kitAny X.K (tagV Γ t) us = some b
def isiTQ (X : Cx) (Γ : Gm) (W : WX) (σ : L2.St) (isa : Tag → Option Bool) (cs : List V) (Q : VK) : List V → Hp → Prop := fun vs H1 => ∃ d h1 n1 ρ1 x tp, vs = [x, .ref tp] ∧ H1 tp = some (.tup cs) ∧ HR X Γ n1 ρ1 H1 h1 ∧ RD X Γ n1 ρ1 H1 d x ∧ PostE X Γ n1 ρ1 H1 (fun c d H' => W c d σ H') (isiR isa d h1) Q
/-- isinstance(e, (C, ..)) -/
theorem de_isiT {e : Expr} {es : List Expr} {k : Nat} {p pos tpos : Pos} {f : Ev} {isa : Tag → Option Bool} {cs : List V} {us : List Value} {tcs : TA} (ok : IsaOks X Γ us isa) (hcu : Paired ClsV cs us) (hz : cs.length ≤ sizeLine) (hg : Gl X "isinstance") (hm : X.mg "isinstance" = none) (he : DE X Γ W e f) (hes : PA X es tcs) (htc : ∀ σ H Q, Q cs H → tcs σ H Q)
    (hs1 : starEach [e, .Tuple es k tpos] X.env = (false, eval e X.env) :: starEach [.Tuple es k tpos] X.env) (hs2 : starEach [.Tuple es k tpos] X.env = (false, eval (.Tuple es k tpos) X.env) :: starEach [] X.env) (hpl : (backTo pos (starEach [.Tuple es k tpos] X.env)).any (·.1) = false) :
    DE X Γ W (.Call (.Name "isinstance" p) [e, .Tuple es k tpos] [] pos) (evIsi isa f) := by
  refine ⟨fun pins s σ H Q I ⟨E, h, n, ρ, er, hr, q⟩ => ?_⟩
  refine wpAny_Call_Name_kw (ld_blt I hg hm PyProof.Rows.boot_isinstance ?_ (by decide) (by decide))
  have ha : PA X [e, .Tuple es k tpos] (tCons (tD X Γ W f) (tCons (tTup tcs) tNil)) := pa_cons he (pa_cons (pe_tup hes) pa_nil hs2) hs1
  have rq : tCons (tD X Γ W f) (tCons (tTup tcs) tNil) σ H (isiTQ X Γ W σ isa cs Q) := by
    refine ⟨E, h, n, ρ, er, hr, (Post.bind (R := RelT X.w X.K Γ) q).imp fun x H1 z => ?_⟩
    obtain ⟨d, h1, n1, ρ1, x1, hr1, rd, q1⟩ := z
    refine htc _ _ _ ⟨hz, fun tp hp => ?_⟩
    exact ⟨d, h1, n1, ρ1, x, tp, rfl, upd_same, hr1.new hp, rd.mono (Ext.new hp), Post.mono (Ext.new hp) q1⟩
  refine PyProof.Rows.callWith_builtin1 (thn (ha.run pos pins s σ H _ I rq) fun ws s1 z => ?_) hs1 hpl
  obtain ⟨vs, H1, I1, r1, d, h1, n1, ρ1, x, tp, ev, htp, hr1, rd, q1⟩ := z
  subst ev
  cases r1 with
  | cons rx rr =>
    rename_i v ws'
    cases rr with
    | cons rc rr =>
      rename_i w' ws''
      cases rr
      cases rc
      unfold isiR at q1
      cases e1 : tagOf h1 d with
      | none => rw [e1] at q1; exact q1.elim
      | some t =>
        simp only [e1] at q1
        cases e2 : isa t with
        | none => rw [e2] at q1; exact q1.elim
        | some b =>
          rw [e2] at q1
          obtain ⟨P, k1, k2, k3⟩ := kitx_tag (t := t) (fun c z => ok.own c b (by rw [← z]; exact e2)) I1 hr1 rd rx e1
          obtain ⟨_, its, rv, o, g1, g2, m, g3⟩ := (show ObjOk X.prog X.w H1 s1.heap tp (.tup cs) from I1.hok tp _ htp)
          have e3 := ClsV.all hcu rv
          subst e3
          obtain ⟨oc, od, dt, sl⟩ := o
          simp only at g2 g3
          subst g2 g3
          refine PySem.W.kia_tup k1 I1.kIn k2 g1 (ok.kit t b e2) k3 fun tk => ?_
          exact ⟨.bl b, H1, I1.tok tk, rfl, q1.okR hr1 (.bl _)⟩
/-! ### sum of ints -/
def intsOf : List D → Option (List Int)
  | [] => some []
  | d :: ds => match d with
    | .int i => match intsOf ds with
      | some is => some (i :: is)
      | none => none
    | _ => none
theorem ints_rel {m : Nat} : ∀ {ds : List D} {is : List Int} {vs : List V}, intsOf ds = some is → RelDs X.w X.K Γ n ρ H m ds vs → vs = is.map V.int
  | [], _, _, e, .nil => by cases e; rfl
  | d :: ds, is, _, e, .cons r t => by
    cases d with
    | int i =>
      simp only [intsOf] at e
      cases e1 : intsOf ds with
      | none => rw [e1] at e; cases e
      | some js =>
        rw [e1] at e
        cases e
        cases r
        rw [ints_rel e1 t]
        rfl
    | _ => simp [intsOf] at e
def sumD (ds : List D) (h : AH) : Option (D × AH) := match ds with
  | [d] => match vw h d with
    | .lst xs => match intsOf xs with
      | some is => some (.int is.sum, h)
      | none => none
    | _ => none
  | _ => none
theorem bf_sum (hc : X.calm = true) : BfD X Γ (.builtin "sum") sumD := by
  intro pins s σ H vs us Q h n ρ ds I rv hr rd q
  match ds, rd, rv, q with
  | [], _, _, q => exact q.elim
  | _ :: _ :: _, _, _, q => exact q.elim
  | [d], .cons r .nil, .cons r1 .nil, q =>
    simp only [sumD] at q
    cases e2 : vw h d with
    | lst xs =>
      simp only [e2] at q
      cases e3 : intsOf xs with
      | none => rw [e3] at q; exact q.elim
      | some is =>
        rw [e3] at q
        obtain ⟨a, ws, rfl, hs, rs⟩ := vw_seq hr r e2
        have ew := ints_rel e3 rs
        subst ew
        exact cr_sum hc pins s σ H _ _ Q I (.cons r1 .nil) ⟨a, is, rfl, hs, q _ n ρ H Ext.refl hr (.int _)⟩
    | _ => rw [e2] at q; exact q.elim
end
end MP
set_option Elab.async false
set_option linter.all false
set_option maxRecDepth 100000
set_option maxHeartbeats 4000000
/-! MPZ: a lambda is made and called; sorted with a key. -/
namespace MP
open PySem PySem.Spec PyProof.Rows L2 LamX NdefX
/-- the object at f is this lambda -/
def LamO (f : Addr) (q : Str) (params : Arguments) (body : Expr) (scope : Scope) (cl : List (Str × Addr)) (c' : Addr) : HO := .ext fun h => ∃ (od : Option Addr) (sl : Array (Option Value)) (pm ctv : Value), h.get? f = some (⟨.type "function", od, .func (PySem.W.kla_fn "<lambda>" q params body scope cl pm (.ref c') ctv), sl⟩ : Obj)
theorem lamO_at {P : Program} {w : World} {H : Hp} {h : Heap} {f : Addr} {q : Str} {params : Arguments} {body : Expr} {scope : Scope} {cl : List (Str × Addr)} {c' : Addr} (hok : HOk P w H h) (e : H f = some (LamO f q params body scope cl c')) : ∃ (od : Option Addr) (sl : Array (Option Value)) (pm ctv : Value), h.get? f = some (⟨.type "function", od, .func (PySem.W.kla_fn "<lambda>" q params body scope cl pm (.ref c') ctv), sl⟩ : Obj) := by
  obtain ⟨z, _, _⟩ := hok f _ e
  exact z
theorem lamO_ne {f : Addr} {q : Str} {params : Arguments} {body : Expr} {scope : Scope} {cl : List (Str × Addr)} {c' : Addr} : NTb (LamO f q params body scope cl c') := fun _ z => by
  unfold LamO at z
  cases z
section
variable {X : Cx} {Γ : Gm} {W : WX} {pins : List (Addr × Obj)} {σ : L2.St} {H : Hp} {s : Shared} {n : Nat} {ρ : Rho} {h : AH}
theorem inv_lam {q : Str} {params : Arguments} {body : Expr} {scope : Scope} {cl : List (Str × Addr)} {c' : Addr} {o : Obj} {t' : Nat} {pm ctv : Value} (I : Inv X pins σ H s) (ho : o = { cls := .type "function", data := .func (PySem.W.kla_fn "<lambda>" q params body scope cl pm (.ref c') ctv) }) :
    Inv X pins σ (upd H s.heap.objs.size (LamO s.heap.objs.size q params body scope cl c')) { s with heap := s.heap.push o, toks := t' } := by
  subst ho
  refine I.laid (a := s.heap.objs.size) (fun b u e => Heap.get?_push_of_some _ e) (Nat.le_refl _) ?_
  have e : (s.heap.push ({ cls := .type "function", data := .func (PySem.W.kla_fn "<lambda>" q params body scope cl pm (.ref c') ctv) } : Obj)).get? s.heap.objs.size = some ({ cls := .type "function", data := .func (PySem.W.kla_fn "<lambda>" q params body scope cl pm (.ref c') ctv) } : Obj) := Heap.get?_push_size _ rfl
  exact ⟨⟨_, _, pm, ctv, e⟩, ⟨_, e⟩, fun h1 h2 ⟨od, sl, p, t, z⟩ st => ⟨od, sl, p, t, st _ z⟩⟩
/-- a table grows by a code object that is new -/
theorem HRel.table {T : Gm} {nm : Nat → Nat → Str} {P c' : Addr} {ps : Array Value} {pos : Pos} {q : Str} (hr : HR X Γ n ρ H h) (hm : (P, nm) ∈ Γ.T) (hu : ∀ p ∈ Γ.T, p.1 = P → p.2 = nm) (hn : nm pos.line pos.col = q) (hP : H P = some (.tbl ps)) (hF : Free n ρ P) (ht : TriplesOk ps.toList)
    (ha : ∀ (pos : Pos) (cv : Value), codeAmong pos ps.toList = some cv → ∃ c, cv = .ref c ∧ H c = some (CodeO c (nm pos.line pos.col)) ∧ Free n ρ c) (nC : H c' = none) :
    Ext n ρ H n ρ (upd (upd H P (.tbl (ps ++ #[rawInt pos.line, rawInt pos.col, .ref c']))) c' (CodeO c' q)) ∧ HR X Γ n ρ (upd (upd H P (.tbl (ps ++ #[rawInt pos.line, rawInt pos.col, .ref c']))) c' (CodeO c' q)) h := by
  have hE : ∀ b o, H b = some o → b ≠ P → upd (upd H P (.tbl (ps ++ #[rawInt pos.line, rawInt pos.col, .ref c']))) c' (CodeO c' q) b = some o := fun b o e ne => by
    rw [upd_ne (ne_of_none e nC), upd_ne ne]; exact e
  have nP : ∀ b o, H b = some o → NTb o → b ≠ P := fun b o e t z => by
    rw [z, hP] at e; exact t ps (Option.some.inj e).symm
  have x : Ext n ρ H n ρ (upd (upd H P (.tbl (ps ++ #[rawInt pos.line, rawInt pos.col, .ref c']))) c' (CodeO c' q)) :=
    ⟨⟨Nat.le_refl _, fun _ _ => rfl, fun b o e f t => ⟨hE b o e (nP b o e t), f⟩⟩, fun _ z => z, fun b o z e => hE b o e fun y => hF.1 (by rw [← y]; exact z)⟩
  refine ⟨x, hr.len, hr.inj, hr.nb, fun b z => ?_, fun i o e => ?_, fun p hp => ?_⟩
  · obtain ⟨u, hu⟩ := hr.live b z
    exact ⟨u, x.bkeep b u z hu⟩
  · exact ORel.mono x.toExt0 Iff.rfl (fun u hu => hE _ _ hu (nP _ _ hu ((hr.at_ i o e).ntb hu))) (hr.at_ i o e)
  · have eL : (ps ++ #[rawInt pos.line, rawInt pos.col, .ref c']).toList = ps.toList ++ [rawInt pos.line, rawInt pos.col, .ref c'] := by simp
    have cN : ∀ c z, H c = some (CodeO c z) → c ≠ P := fun c z e y => by
      rw [y, hP] at e; cases e
    by_cases hb : p.1 = P
    · rw [hu p hp hb, hb]
      refine ⟨_, by rw [upd_ne (ne_of_none hP nC), upd_same], hF, by rw [eL]; exact PySem.TriplesOk_snoc _ _ _ _ ht, fun p' cv hcv => ?_⟩
      rw [eL] at hcv
      rcases among_app2 _ ht hcv with z | ⟨z, z1, z2⟩
      · obtain ⟨c0, e1, e2, e3⟩ := ha p' cv z
        exact ⟨c0, e1, hE _ _ e2 (cN _ _ e2), e3⟩
      · refine ⟨c', z, ?_, hr.fresh nC⟩
        rw [← z1, ← z2, hn]
        exact upd_same
    · obtain ⟨ps', a1, a2, a3, a4⟩ := hr.tab p hp
      refine ⟨ps', hE _ _ a1 hb, a2, a3, fun p' cv hcv => ?_⟩
      obtain ⟨c0, e1, e2, e3⟩ := a4 p' cv hcv
      exact ⟨c0, e1, hE _ _ e2 (cN _ _ e2), e3⟩
/-- what is known of a lambda that was made -/
def tLamF (X : Cx) (Γ : Gm) (params : Arguments) (body : Expr) (scope : Scope) : TE := fun σ H Q => ∃ h n ρ, HR X Γ n ρ H h ∧ ∀ f c' H1, Ext n ρ H n ρ H1 → HR X Γ n ρ H1 h → H1 f = some (LamO f (X.env.qual ++ "<lambda>") params body scope (cloFrom X.env.cells scope.names []) c') → Free n ρ f →
  H1 c' = some (CodeO c' (X.env.qual ++ "<lambda>")) → Free n ρ c' → Q (.ref f) H1
theorem pe_lamF {nm : Nat → Nat → Str} {c P : Addr} {params : Arguments} {body : Expr} {scope : Scope} {pos : Pos} (TB : TabB X.base X.mg c P) (hcode : X.env.code = .ref c) (hm : (P, nm) ∈ Γ.T) (hn : nm pos.line pos.col = X.env.qual ++ "<lambda>") (hu : ∀ p ∈ Γ.T, p.1 = P → p.2 = nm) (hdef : defaultsOf params X.env = ([], []))
    (hfree : ∀ y ∈ scope.names, y.2 = .free → X.env.scope.names.lookup y.1 = some .cell ∨ X.env.scope.names.lookup y.1 = some .free) : PE X (.Lambda params body scope pos) (tLamF X Γ params body scope) := by
  refine ⟨fun pins s σ H Q I ⟨h, n, ρ, hr, q⟩ => ?_⟩
  have hfr : ∀ y ∈ scope.names, y.2 = .free → ∃ c, X.env.cells.lookup y.1 = some c := fun y hy e => (hfree y hy e).elim (fun z => I.ok.has _ (.inl z)) fun z => I.ok.has _ (.inr z)
  obtain ⟨ps, hP, hF, ht, ha⟩ := hr.tab _ hm
  refine PySem.W.kla_eval hdef ?_
  have bP : s.heap.BuiltinsAt X.mg P := TB.bm.keeps I.bk
  have hP' : s.heap.get? P = some { cls := .none, data := .fields ps } := I.hok P _ hP
  cases hc : codeAmong pos ps.toList with
  | none =>
    refine PySem.W.kla_makeFunction (mg := X.mg) (c := c) (P := P) (ps := ps) (closure_ok hfr) I.ok.glob (I.mod.glob.keeps I.bk) hcode (TB.code.keeps I.bk) hP' ht hc TB.gP bP fun c' ctv h' tk hx hge hlt hrec htb => ?_
    obtain ⟨c2, oc, vs, t, e2, hoc, hd, hv⟩ := hrec
    cases e2
    have nC : H c' = none := I.hok.fresh hge
    have I1 := inv_table (t' := tk) (more := #[rawInt pos.line, rawInt pos.col, .ref c']) (h' := h') I hP (fun b o hb e => hx b o hb e) htb hge ⟨oc, vs, t, hoc, hd, hv⟩
    obtain ⟨x1, hr1⟩ := HRel.table (T := Γ) (c' := c') (pos := pos) hr hm hu hn hP hF ht ha nC
    have nF := I1.hok.fresh (Nat.le_refl _)
    have I2 := inv_lam (q := X.env.qual ++ "<lambda>") (params := params) (body := body) (scope := scope) (cl := cloFrom X.env.cells scope.names []) (c' := c') (t' := tk) (pm := (X.mg "__name__").getD .none) (ctv := ctv) I1 rfl
    have hCO : upd (upd (upd H P (.tbl (ps ++ #[rawInt pos.line, rawInt pos.col, .ref c']))) c' (CodeO c' (X.env.qual ++ "<lambda>"))) h'.objs.size (LamO h'.objs.size (X.env.qual ++ "<lambda>") params body scope (cloFrom X.env.cells scope.names []) c') c' = some (CodeO c' (X.env.qual ++ "<lambda>")) := (upd_ne (Nat.ne_of_lt hlt)).trans upd_same
    exact ⟨.ref h'.objs.size, _, I2, rfl, q _ _ _ (x1.trans (Ext.new nF)) (hr1.new nF) upd_same (hr1.fresh nF) hCO (hr.fresh nC)⟩
  | some cv =>
    obtain ⟨c', e, hco, hcf⟩ := ha pos cv hc
    subst e
    have hco : H c' = some (CodeO c' (nm pos.line pos.col)) := hco
    rw [hn] at hco
    refine PySem.W.kla_makeFunctionHit (mg := X.mg) (c := c) (P := P) (ps := ps) (closure_ok hfr) I.ok.glob (I.mod.glob.keeps I.bk) hcode (TB.code.keeps I.bk) hP' ht hc bP fun ctv h' tk hx hsz => ?_
    have I1 : Inv X pins σ H { s with heap := h', toks := tk } := I.kept hx
    have nF : H h'.objs.size = none := I1.hok.fresh (Nat.le_refl _)
    have I2 := inv_lam (q := X.env.qual ++ "<lambda>") (params := params) (body := body) (scope := scope) (cl := cloFrom X.env.cells scope.names []) (c' := c') (t' := tk) (pm := (X.mg "__name__").getD .none) (ctv := ctv) I1 rfl
    exact ⟨.ref h'.objs.size, _, I2, rfl, q _ _ _ (Ext.new nF) (hr.new nF) upd_same (hr.fresh nF) ((upd_ne (ne_of_none hco nF)).trans hco) hcf⟩
/-- a lambda is called: its body, in a frame of its own -/
theorem lam_run {P : Program} {w : World} {K : PySem.W.Frag} {mg : Str → Option Value} {base : Heap} {A : Around} {outer : List Env} {s1 : Shared} {H1 : Hp} {E : XK} {Q : VK} {q : Str} {params : Arguments} {body : Expr} {scope : Scope} {cl : List (Str × Addr)} {f c' : Addr} {N ps fr : List Str} {k : Nat} {vs : List V} {us : List Value} {ws : List (Option V)} {t : TE}
    (S : NScope N ps fr scope) (hb : ∀ (pm ctv : Value) (us : List Value), us.length = ps.length → bindArgs (PySem.W.kla_fn "<lambda>" q params body scope cl pm (.ref c') ctv) ⟨us, []⟩ = pure (ps.zip us)) (hf : H1 f = some (LamO f q params body scope cl c')) (hc : H1 c' = some (CodeO c' q))
    (C : CellsAt cl fr ws s1.heap H1) (hr : Room (k + 1) A) (e0 : Env0 P w K mg base A outer s1 H1) (hl : vs.length = ps.length) (r : Vals vs us)
    (hbody : Room k (A.deeper (envF ⟨"<lambda>", q, params, [], scope, cl, c'⟩ f s1.heap.objs.size)) → PE (ncx (L2.CX P w) P w K mg base N ⟨"<lambda>", q, params, [], scope, cl, c'⟩ f A outer s1 H1 E) body t) (ht : t (startF N vs ws) H1 Q) :
    codeAny (model P w) A (.call (.ref f) ⟨us, []⟩) (CR (L2.CX P w) outer P w H1 s1 Q E) s1 := by
  have lim : s1.heap.NoLimit := e0.mod.nolimit.keeps fun b o e => (e0.bs b o e).1
  obtain ⟨od, sl, pm, ctv, ho⟩ := lamO_at e0.hok hf
  refine PySem.W.kla_callFunE hr.depth ho rfl S.co S.gen rfl (codeO_at e0.hok hc) ?_
  rw [hb pm ctv us (by rw [← r.length]; exact hl)]
  refine wpAny_pure (wpAny_newFunctionEnv S.nocell (fun ⟨n, _⟩ hy => S.par n (List.of_mem_zip hy).1) (fun h₁ hns hsb => ⟨lim.fresh _ hsb, ?_⟩) S.kind)
  have kp : ∀ b o, s1.heap.get? b = some o → h₁.get? b = some o := fun b o e => hsb.extBut b o (Nat.ne_of_lt (Heap.lt_size e)) (Heap.get?_push_of_some _ e)
  have J : Inv (ncx (L2.CX P w) P w K mg base N ⟨"<lambda>", q, params, [], scope, cl, c'⟩ f A outer s1 H1 E) [] (startF N vs ws) H1 { s1 with heap := h₁, toks := s1.toks + (ps.zip us).length } := inv_startN (F := ⟨"<lambda>", q, params, [], scope, cl, c'⟩) S hr.hd e0 hl r C hns kp
  refine PySem.W.kla_codeExpr (wpAny_mono ((hbody (hr.deeper _)).run [] _ _ H1 Q J ht) (fun v s' hq => ?_) fun e s' hq => hq)
  obtain ⟨w', H', J', rv, q⟩ := hq
  exact ⟨w', H', J'.os, J'.bare, J'.base, J'.hok, rv, q⟩
end
end MP
set_option Elab.async false
set_option linter.all false
set_option maxRecDepth 100000
set_option maxHeartbeats 4000000
/-! MQA: sorted with a key: the loop over the items. -/
namespace MP
open PySem PySem.Spec PySem.Calls PySem.W PyProof.Rows L2 LamX NdefX
section
variable {X : Cx} {Γ : Gm} {W : WX} {pins : List (Addr × Obj)} {σ : L2.St} {H : Hp} {s : Shared} {n : Nat} {ρ : Rho} {h : AH}
/-- an object of a built-in's own -/
structure OwnA (X : Cx) (pins : List (Addr × Obj)) (b : Addr) : Prop where
  nl : b ≠ X.env.locals
  ab : b ∈ X.ex ∨ X.s_0.heap.objs.size ≤ b
  nc : ∀ x c, X.env.cells.lookup x = some c → c ≠ b
  np : ∀ p ∈ X.pn ++ pins, p.1 ≠ b
  nf : b ∉ frs X.stack
theorem own_of (I : L2.Inv X pins σ H s) {b : Addr} (hb : s.heap.objs.size ≤ b) : OwnA X pins b := by
  have lt : ∀ {c : Addr} {o : Obj}, s.heap.get? c = some o → c ≠ b := fun {c o} e z => by
    have := Heap.lt_size e
    rw [z] at this
    exact Nat.lt_irrefl _ (Nat.lt_of_lt_of_le this hb)
  refine ⟨fun z => ?_, .inr (Nat.le_trans I.sz hb), fun x c e => ?_, fun p hp => lt (I.pin p hp).1, fun z => ?_⟩
  · have := I.lt
    rw [← z] at this
    exact Nat.lt_irrefl _ (Nat.lt_of_lt_of_le this hb)
  · obtain ⟨v, o, ho, _⟩ := I.cell x c e
    exact lt ho
  · rcases List.mem_cons.mp (I.stkSub _ z) with e | e
    · have h1 := I.lt
      rw [← e] at h1
      exact Nat.lt_irrefl _ (Nat.lt_of_lt_of_le h1 hb)
    · exact I.nofs hb e
theorem inv_turnedL {t' : Nat} {L : List Addr} {h' : Heap} (I : L2.Inv X pins σ H s) (k : ∀ b o, b ∉ L → s.heap.get? b = some o → h'.get? b = some o) (hn : ∀ b ∈ L, H b = none) (ho : ∀ b ∈ L, OwnA X pins b) : L2.Inv X pins σ H { s with heap := h', toks := t' } := by
  have nit : ∀ b u, H b = some u → b ∉ L := fun b u e z => by rw [hn b z] at e; cases e
  refine I.step (g' := s.gens) (d' := s.drawn) (ch := L) (fun b hb => ⟨(ho b hb).ab, (ho b hb).nl, (ho b hb).nc, (ho b hb).np⟩) (fun b o _ _ hc e _ => k b o hc e) (fun b o _ _ hc e _ => ⟨o.slots, k b o hc e⟩) (fun _ _ _ _ n => n)
    (fun b o hc e => ⟨o, k b o hc e⟩) (fun _ _ e => e) (fun _ _ _ e => e) (fun b ps e => ⟨#[], by rw [e]; simp⟩) (fun m hm => ?_) (fun b u e => ?_) I.bare
  · obtain ⟨o, es, ep, ho', r⟩ := hm
    exact ⟨o, es, ep, k _ o (fun z => (ho _ z).nl rfl) ho', r⟩
  · refine (I.hok b u e).stay (fun c v hc q => k c v ?_ q) (fun _ q => q) fun _ _ q => q
    rcases hc with z | z
    · rw [z]; exact nit b u e
    · exact nit c _ z
/-- such an object is known from now on -/
theorem inv_adopt {a : Addr} {o : HO} (I : L2.Inv X pins σ H s) (hn : H a = none) (ho : OwnA X pins a) (new : ObjOk X.prog X.w (upd H a o) s.heap a o) : L2.Inv X pins σ (upd H a o) s := by
  have ne : ∀ b u, H b = some u → b ≠ a := fun b u e z => by rw [z, hn] at e; cases e
  have J := I.step (h' := s.heap) (H' := upd H a o) (g' := s.gens) (d' := s.drawn) (t' := s.toks) (ch := [a]) (fun b hb => by
      rw [show b = a by simpa using hb]
      exact ⟨ho.ab, ho.nl, ho.nc, ho.np⟩) (fun b o _ _ _ e _ => e) (fun b o _ _ _ e _ => ⟨o.slots, e⟩) (fun b o hc _ n => by rw [upd_ne (by simpa using hc)]; exact n)
    (fun b o _ e => ⟨o, e⟩) (fun b xs e => by rw [upd_ne (ne b _ e)]; exact e) (fun b o u e => by rw [upd_ne (ne b _ e)]; exact e) (fun b ps e => ⟨#[], by rw [upd_ne (ne b _ e), e]; simp⟩) (fun m hm => hm) (fun b u e => ?_) I.bare
  · exact J
  · by_cases hb : b = a
    · subst hb
      rw [upd_same] at e
      cases e
      exact new
    · rw [upd_ne hb] at e
      exact (I.hok b u e).stay (fun c v _ q => q) (fun c q => by rw [upd_ne (ne c _ q)]; exact q) fun c xs q => by rw [upd_ne (ne c _ q)]; exact q
theorem eachIs_get {α β : Type} {R : α → β → Prop} : ∀ {as : List α} {bs : List β} {j : Nat} {a : α}, EachIs R as bs → as[j]? = some a → ∃ b, bs[j]? = some b ∧ R a b
  | _, _, _, _, .nil, e => by simp at e
  | _, _, 0, _, .cons r _, e => by simp at e; subst e; exact ⟨_, rfl, r⟩
  | _, _, j + 1, a, .cons _ t, e => by
    obtain ⟨b, h1, h2⟩ := eachIs_get (j := j) (a := a) t (by simpa using e)
    exact ⟨b, by simpa using h1, h2⟩
theorem RVD.mono {H' : Hp} {n' : Nat} {ρ' : Rho} (x : Ext n ρ H n' ρ' H') {v : Value} {d : D} (r : RVD X Γ n ρ H v d) : RVD X Γ n' ρ' H' v d := let ⟨y, a, b⟩ := r; ⟨y, a.monoP x, b⟩
/-- the items by their keys -/
def byKeys (xs : List D) (ps : List PyData) : List D := (sortS (dataLe false (Prod.snd : D × PyData → PyData)) (xs.zip ps)).map Prod.fst
theorem byKeys_eq {xs : List D} {ps : List PyData} : byKeys xs ps = ((xs.zip ps).mergeSort (dataLe false (Prod.snd : D × PyData → PyData))).map Prod.fst := by
  have T := PySem.W.sortLe_total (listOrd itemOrd) false fun b : D × PyData => PySem.W.keyToks b.2
  exact congrArg (List.map Prod.fst) (sortS_eq T.trans (fun a b => by rcases T.total a b with z | z <;> rw [z] <;> simp) (xs.zip ps)).symm
theorem zip_each {R : Value → D → Prop} : ∀ {us : List Value} {xs : List D} {ps : List PyData}, EachIs R us xs → xs.length = ps.length → EachIs (fun u (b : D × PyData) => R u b.1) us (xs.zip ps)
  | _, _, [], .nil, _ => .nil
  | _, _, _ :: _, .cons r t, e => .cons r (zip_each t (by simpa using e))
theorem each_fst {R : Value → D → Prop} : ∀ {us : List Value} {bs : List (D × PyData)}, EachIs (fun u (b : D × PyData) => R u b.1) us bs → EachIs R us (bs.map Prod.fst)
  | _, _, .nil => .nil
  | _, _, .cons r t => .cons r (each_fst t)
theorem sortK_rest {a kS f : Addr} {e1 : Nat} {vs : List Value} {xs ks : List D} {P : PySem.Fin → Shared → Prop} {E : Value → Shared → Prop} (hu : X.A.units + 64 < cLine) (I : L2.Inv X pins σ H s) (hr : HR X Γ n ρ H h) (oa : OwnA X pins a) (ok : OwnA X pins kS) (hka : kS ≠ a) (na : H a = none) (nk : H kS = none)
    (ha : s.heap.get? a = some (seqObj "list" #[] e1)) (hk : s.heap.get? kS = some (seqObj "list" #[] 0)) (rx : EachIs (RVD X Γ n ρ H) vs xs) (hlen : ks.length = xs.length) (hz : xs.length ≤ sizeLine) (he : ∀ k ∈ ks, toD dp k = some (encD k)) (hal : canSort (ks.map encD) = true)
    (turn : ∀ (s1 : Shared) (H1 : Hp) (j : Nat) (x k : D) (v : V) (u : Value), xs[j]? = some x → ks[j]? = some k → L2.Inv X pins σ H1 s1 → Ext n ρ H n ρ H1 → HR X Γ n ρ H1 h → RD0 X Γ n ρ H1 x v → RelV v u →
      codeAny (model X.prog X.w) X.A.in1.in1 (.call (.ref f) ⟨[u], []⟩) (CR (L2.CX X.prog X.w) X.stack X.prog X.w H1 s1 (fun v' H2 => Ext n ρ H1 n ρ H2 ∧ HR X Γ n ρ H2 h ∧ RD0 X Γ n ρ H2 k v') (fun _ _ _ => False)) s1)
    (fin : ∀ (H' : Hp) (s' : Shared) (out : List Value) (c : Nat), L2.Inv X pins σ H' s' → Ext n ρ H n ρ H' → HR X Γ n ρ H' h → H' a = none → s'.heap.get? a = some (seqObj "list" (List.toArray out) c) → EachIs (RVD X Γ n ρ H') out (byKeys xs (ks.map encD)) → P (.done (.ret .none)) s') :
    wpAny (model X.prog X.w) X.A.in1.in1 (ksk_rest a (.ref f) false vs.toArray e1 (.ref kS)) P E s := by
  have hvl : vs.length = xs.length := rx.length
  unfold ksk_rest
  refine wpAny_bind (wpAny_rule ?_)
  first
    | rw [List.forIn_toArray]
    | (rw [← Array.forIn_toList]; simp only [List.toList_toArray])
    | rw [← Array.forIn_toList]
  refine wpAny_bind (ksk_fold (fun i s' => ∃ H' kA e, L2.Inv X pins σ H' s' ∧ Ext n ρ H n ρ H' ∧ HR X Γ n ρ H' h ∧ H' a = none ∧ H' kS = none ∧ s'.heap.get? a = some (seqObj "list" #[] e1) ∧ s'.heap.get? kS = some (seqObj "list" kA e) ∧ EachIs (RVD X Γ n ρ H') kA.toList (ks.take i)) vs 0 s
    ⟨H, #[], 0, I, Ext.refl, hr, na, nk, ha, hk, by rw [List.take_zero]; exact EachIs.nil⟩ ?step ?done)
  case step =>
    rintro j u s' hx ⟨H', kA, e, I', x', hr', na', nk', ha', hk', er⟩
    simp only [Nat.zero_add] at er ⊢
    obtain ⟨x, hxj, y, r1, r2⟩ := eachIs_get rx hx
    have hj : j < xs.length := (List.getElem?_eq_some_iff.mp hxj).1
    obtain ⟨k, hkj⟩ : ∃ k, ks[j]? = some k := ⟨_, List.getElem?_eq_getElem (by omega)⟩
    have hzA : kA.size ≤ xs.length := by
      have h1 := er.length
      rw [Array.length_toList, List.length_take] at h1
      omega
    refine wpAny_bind (wpAny_attempt (wpAny_call (codeAny_mono (turn s' H' j x k y u hxj hkj I' x' hr' (r1.monoP x') r2) fun r s'' hq => ?_)))
    cases r with
    | error er =>
      obtain ⟨_, _, _, _, _, _, _, _, _, _, _, _, z⟩ := hq
      exact z.elim
    | ok fl =>
      cases fl with
      | next => exact hq.elim
      | brk => exact hq.elim
      | cont => exact hq.elim
      | ret u' =>
        obtain ⟨v', H2, os, bare, un, hok, rv, x2, hr2, rk⟩ := hq
        obtain ⟨hh, g, d, t, os'⟩ := s''
        obtain rfl : os' = s'.os := os
        have I2 := I'.call (h' := hh) (g' := g) (d' := d) (t' := t) (ch := []) un hok bare (fun b z => absurd z (by simp))
        have ha2 : hh.get? a = some (seqObj "list" #[] e1) := un.keep a _ ha' na' oa.nf (by simp)
        have hk2 : hh.get? kS = some (seqObj "list" kA e) := un.keep kS _ hk' nk' ok.nf (by simp)
        have na2 : H2 a = none := un.free a _ ha' na' (by simp)
        have nk2 : H2 kS = none := un.free kS _ hk' nk' (by simp)
        have s1 := Heap.SameBut.update hh kS (Obj.mapSeq (·.push u'))
        obtain ⟨c2, hc2⟩ : ∃ c2, (hh.update kS (Obj.mapSeq (·.push u'))).get? kS = some (seqObj "list" (kA.push u') c2) := ⟨_, get?_update_seq hk2 (·.push u')⟩
        try dsimp only
        refine wpAny_bind (listUpdate_at hk2 rfl ?_ (Nat.le_trans hzA hz) (Nat.le_trans (Nat.le_of_eq (Array.size_push ..)) (Nat.succ_le_succ (Nat.le_trans hzA hz))))
        have I3 := inv_turnedL (t' := t) (L := [kS]) (h' := hh.update kS (Obj.mapSeq (·.push u'))) I2 (fun b o hb e => (s1.2 b (by simpa using hb)).trans e) (fun b hb => by rw [show b = kS by simpa using hb]; exact nk2) (fun b hb => by rw [show b = kS by simpa using hb]; exact ok)
        have ek : ks.take (j + 1) = ks.take j ++ [k] := by rw [List.take_add_one, hkj]; simp
        have ea : (kA.push u').toList = kA.toList ++ [u'] := by simp
        refine wpAny_pure ⟨rfl, H2, kA.push u', c2, I3, x'.trans x2, hr2, na2, nk2, (s1.2 a hka.symm).trans ha2, hc2, ?_⟩
        rw [ea, ek]
        exact each_snoc ⟨v', rk, rv⟩ (er.mono fun u d q => RVD.mono x2 q)
  case done =>
    rintro s' ⟨H', kA, e, I', x', hr', na', nk', ha', hk', er⟩
    have e3 : ks.take (0 + vs.length) = ks := List.take_of_length_le (by omega)
    rw [e3] at er
    have hsz : kA.size = vs.length := by
      have h1 := er.length
      rw [Array.length_toList] at h1
      omega
    have hrd : EachIs (fun v k => ∃ as, Reads s'.heap v k as) kA.toList (ks.map encD) := each_map encD (each_reads I' he er)
    have hkz : (ks.map encD).length = xs.length := by rw [List.length_map]; exact hlen
    try dsimp only
    refine wpAny_bind (listItems_at hk' rfl ?_)
    have hu' : ∀ d, d ∈ ks.map encD → X.A.in1.in1.units + d.depth < cLine := fun d hd => by
      obtain ⟨b, hb, rfl⟩ := List.mem_map.mp hd
      have z : (encD b).depth ≤ 16 := toD_depth (he b hb)
      have q : X.A.in1.in1.units ≤ X.A.units + 2 := by first | exact Nat.le_refl _ | (show X.A.units + 1 + 1 ≤ _; omega) | simp [Around.in1]
      omega
    refine keyH_end (κ := dataKind s'.heap (ks.map encD)) (h₁ := hideAll s'.heap [kS]) (fun b o _ q => of_hideAll _ q) (hideAll_none _ (List.mem_singleton.mpr rfl)) hk' ha' hka (SortsAt.data hrd (canSort_alike hal) (canSort_sortable hal) hu') hsz (by rw [hvl]; exact hz) fun h' tk c k1 k2 => ?_
    have kp : ∀ b o, b ∉ [a, kS] → s'.heap.get? b = some o → h'.get? b = some o := fun b o hb q => by
      simp only [List.mem_cons, List.not_mem_nil, or_false, not_or] at hb
      exact k1 b o hb.1 (hideAll_get _ q (by simpa using hb.2))
    have I2 := inv_turnedL (t' := tk) (L := [a, kS]) (h' := h') I' kp (fun b hb => by
        simp only [List.mem_cons, List.not_mem_nil, or_false] at hb
        rcases hb with rfl | rfl <;> assumption) (fun b hb => by
        simp only [List.mem_cons, List.not_mem_nil, or_false] at hb
        rcases hb with rfl | rfl <;> assumption)
    refine fin H' _ _ c I2 x' hr' na' k2 ?_
    have em : (xs.zip (ks.map encD)).map Prod.snd = ks.map encD := List.map_snd_zip (by omega)
    have hR : EachIs (fun u (b : D × PyData) => RVD X Γ n ρ H' u b.1) vs (xs.zip (ks.map encD)) := zip_each (rx.mono fun u d q => RVD.mono x' q) hkz.symm
    have ko : KeyedOut false ((xs.zip (ks.map encD)).map Prod.snd) vs (sortVals (dataKind s'.heap (ks.map encD)) false kA.toList vs) := by
      rw [em]
      exact ⟨s'.heap, kA.toList, canSort_alike hal, rfl, hrd⟩
    rw [byKeys_eq]
    exact each_fst (keyedOut_each Prod.snd ko hR)
end
end MP
set_option Elab.async false
set_option linter.all false
set_option maxRecDepth 100000
set_option maxHeartbeats 4000000
/-! MQB: sorted(e, key=lambda x: body). -/
namespace MP
open PySem PySem.Spec PySem.Calls PySem.W PyProof.Rows L2 LamX NdefX
theorem takes0 {X : Cx} : Takes X W0 := fun u s' ⟨a, B, sI, pins, σ, H, cls, d, e, I, nb, up, sky, na, os, ag, w⟩ => w.elim
def vOnly (o : Option (Option D)) : Option D := match o with
  | some (some d) => match isV d with
    | true => some d
    | false => none
  | _ => none
/-- the captured names' values -/
def capD (E : Env') (js : List Nat) : List (Option D) := js.map fun j => vOnly E[j]?
/-- what the lambda gives -/
def keyR (fb : Ev) (m : Nat) (cap : List (Option D)) (x : D) : Option D := match fb (some x :: (cap ++ List.replicate (m - 1 - cap.length) none)) [] with
  | some (.ok d, h) => match frzR d h with
    | some (d', _) => some d'
    | none => none
  | _ => none
def sortKR (fb : Ev) (m : Nat) (cap : List (Option D)) (ds : List D) (h : AH) : Res D := match ds with
  | [d] => match frzR d h with
    | some (.lst xs, h1) => match allM (keyR fb m cap) xs with
      | some ks => match allM (toD dp) ks with
        | some ps => if (canSort ps && decide (xs.length ≤ sizeLine)) = true then okR (.lst (byKeys xs ps)) h1 else none
        | none => none
      | none => none
    | _ => none
  | _ => none
def evSortK (fb : Ev) (m : Nat) (js : List Nat) (g : Env' → AH → Res (List D)) : Ev := fun E h => bindR (g E h) (sortKR fb m (capD E js))
theorem allM_at {α β : Type} {f : α → Option β} : ∀ {as : List α} {bs : List β} {j : Nat} {a : α} {b : β}, allM f as = some bs → as[j]? = some a → bs[j]? = some b → f a = some b
  | [], _, _, _, _, _, e, _ => by simp at e
  | x :: as, bs, j, a, b, h, e1, e2 => by
    unfold allM at h
    cases h1 : f x with
    | none => rw [h1] at h; cases h
    | some y =>
      cases h2 : allM f as with
      | none => rw [h1, h2] at h; cases h
      | some ys =>
        rw [h1, h2] at h
        cases h
        cases j with
        | zero => simp at e1 e2; subst e1; subst e2; exact h1
        | succ j => exact allM_at (j := j) h2 (by simpa using e1) (by simpa using e2)
theorem allM_len {α β : Type} {f : α → Option β} : ∀ {as : List α} {bs : List β}, allM f as = some bs → bs.length = as.length
  | [], _, h => by cases h; rfl
  | x :: as, bs, h => by
    unfold allM at h
    cases h1 : f x with
    | none => rw [h1] at h; cases h
    | some y =>
      cases h2 : allM f as with
      | none => rw [h1, h2] at h; cases h
      | some ys =>
        rw [h1, h2] at h
        cases h
        simp [allM_len h2]
section
variable {X : Cx} {Γ : Gm} {W : WX} {pins : List (Addr × Obj)} {σ : L2.St} {H : Hp} {s : Shared} {n : Nat} {ρ : Rho} {h : AH} {E : Env'}
theorem vOnly_some {o : Option (Option D)} {d : D} (e : vOnly o = some d) : o = some (some d) ∧ isV d = true := by
  unfold vOnly at e
  match o, e with
  | some (some x), e =>
    simp only at e
    cases h : isV x with
    | true => rw [h] at e; cases e; exact ⟨rfl, h⟩
    | false => rw [h] at e; cases e
/-- the lambda's names at its call -/
theorem lam_env {Y : Cx} {N : List Str} {js : List Nat} {x : D} {v : V} {H1 : Hp} (hw : Y.w = X.w) (hK : Y.K = X.K) (er : EnvR X Γ n ρ H1 E σ) (r : RD0 X Γ n ρ H1 x v) : EnvR Y Γ 0 (lend n ρ) H1 (some x :: (capD E js ++ List.replicate (N.length - 1 - (capD E js).length) none)) (startF N [v] (js.map (slotAt σ))) := by
  have key : EnvW X.w X.K Γ 0 (lend n ρ) H1 (some x :: (capD E js ++ List.replicate (N.length - 1 - (capD E js).length) none)) (startF N [v] (js.map (slotAt σ))) := by
    refine ⟨by simp [startF, capD], fun i d e => ?_⟩
    have lift : ∀ {d : D} {v : V}, RD0 X Γ n ρ H1 d v → RelD X.w X.K Γ 0 (lend n ρ) H1 0 d v := fun r => r.keep0 fun b o hb f _ => ⟨hb, lend_free.mpr f⟩
    cases i with
    | zero =>
      have e2 : x = d := by simpa using e
      subst e2
      exact ⟨v, by simp [startF], lift r⟩
    | succ i =>
      have e1 : (capD E js ++ List.replicate (N.length - 1 - (capD E js).length) none)[i]? = some (some d) := by simpa using e
      by_cases hi : i < js.length
      · rw [List.getElem?_append_left (by simpa [capD] using hi)] at e1
        unfold capD at e1
        rw [List.getElem?_map, List.getElem?_eq_getElem hi] at e1
        obtain ⟨e2, hv⟩ := vOnly_some (Option.some.inj e1)
        obtain ⟨v', g1, g2⟩ := er.at_ _ d e2
        refine ⟨v', ?_, lift (g2.down hv)⟩
        have : (startF N [v] (js.map (slotAt σ)))[i + 1]? = (js.map (slotAt σ))[i]? := by
          unfold startF
          show (some v :: (js.map (slotAt σ) ++ _))[i + 1]? = _
          rw [List.getElem?_cons_succ, List.getElem?_append_left (by simpa using hi)]
        rw [this, List.getElem?_map, List.getElem?_eq_getElem hi]
        exact congrArg some (slotAt_of g1)
      · rw [List.getElem?_append_right (by simpa [capD] using Nat.le_of_not_lt hi), List.getElem?_replicate] at e1
        split at e1 <;> cases e1
  have : EnvW Y.w Y.K Γ 0 (lend n ρ) H1 (some x :: (capD E js ++ List.replicate (N.length - 1 - (capD E js).length) none)) (startF N [v] (js.map (slotAt σ))) := by rw [hw, hK]; exact key
  exact this
theorem sortK_call {params : Arguments} {body : Expr} {scope : Scope} {fb : Ev} {N fr : List Str} {y : Str} {js : List Nat} {k : Nat} {f c' : Addr} {d : D} {v : V} {u : Value} {Q : VK} {Wx : Value → Option Addr → Hp → Prop}
    (S : NScope N [y] fr scope) (hfr : ndefB X.env.scope scope fr = true) (hjs : js.map (fun j => X.N[j]?) = fr.map some) (hr : Room (k + 3) X.A)
    (hbind : ∀ (q : Str) (cl : List (Str × Addr)) (pm cv ctv u : Value), bindArgs (PySem.W.kla_fn "<lambda>" q params body scope cl pm cv ctv) ⟨[u], []⟩ = pure [(y, u)])
    (hb : ∀ (f c' : Addr) (s1 : Shared) (H1 : Hp), Room k (X.A.in1.in1.deeper (envF ⟨"<lambda>", X.env.qual ++ "<lambda>", params, [], scope, cloFrom X.env.cells scope.names [], c'⟩ f s1.heap.objs.size)) →
      DE (ncx (L2.CX X.prog X.w) X.prog X.w X.K X.mg X.base N ⟨"<lambda>", X.env.qual ++ "<lambda>", params, [], scope, cloFrom X.env.cells scope.names [], c'⟩ f X.A.in1.in1 X.stack s1 H1 (fun _ _ _ => False)) Γ W0 body fb)
    (I : L2.Inv X pins σ H s) (er : EnvR X Γ n ρ H E σ) (hr0 : HR X Γ n ρ H h) (hf : H f = some (LamO f (X.env.qual ++ "<lambda>") params body scope (cloFrom X.env.cells scope.names []) c')) (hff : Free n ρ f) (hc : H c' = some (CodeO c' (X.env.qual ++ "<lambda>"))) (hcf : Free n ρ c') (rd : RD X Γ n ρ H d v) (ru : RelV v u)
    (q : PostE X Γ n ρ H Wx (sortKR fb N.length (capD E js) [d] h) Q) : wpAny (model X.prog X.w) X.A (call (.builtin "sorted") [u] [(Str.ofString "key", .ref f)]) (EP X pins σ Q) X.xe s := by
  simp only [sortKR] at q
  cases e1 : frzR d h with
  | none => rw [e1] at q; exact q.elim
  | some p1 =>
    obtain ⟨d', h2⟩ := p1
    simp only [e1] at q
    cases d' with
    | lst xs =>
      simp only at q
      cases e2 : allM (keyR fb N.length (capD E js)) xs with
      | none => rw [e2] at q; exact q.elim
      | some ks =>
        simp only [e2] at q
        cases e3 : allM (toD dp) ks with
        | none => rw [e3] at q; exact q.elim
        | some ps =>
          simp only [e3] at q
          by_cases hcs : (canSort ps && decide (xs.length ≤ sizeLine)) = true
          · rw [if_pos hcs] at q
            obtain ⟨c1, c2⟩ := Bool.and_eq_true_iff.mp hcs
            have c2 : xs.length ≤ sizeLine := of_decide_eq_true c2
            obtain ⟨ρ2, x3, hr3, r3⟩ := frzR_ok hr0 rd e1
            have hf3 : Free n ρ2 f := (x3.keep f _ hf hff lamO_ne).2
            have hc3 : Free n ρ2 c' := (x3.keep c' _ hc hcf codeO_ne).2
            obtain ⟨l, lvs, rfl, hs, rs⟩ := r3.lst_seq
            cases ru
            obtain ⟨its, rvv, pl, hz⟩ := I.list hs
            obtain ⟨m5, m6⟩ := allM_map e3
            have hlen : ks.length = xs.length := allM_len e2
            have hits : its.length ≤ sizeLine := by rw [← rvv.length]; exact hz
            refine sorted_of_sort pl.isList hits (ksk_s1 _ _) (fun _ => by unfold argsOk; kernel_rfl) fun E' => ?_
            rw [ksk_t1]
            have ho := copyHeap_at s.heap its
            have hsz0 : (copyHeap s.heap its).objs.size = s.heap.objs.size + 2 := by
              unfold copyHeap
              rw [size_push', Heap.size_update, size_push']
            obtain ⟨e1', ho1⟩ : ∃ e1', ((copyHeap s.heap its).update (s.heap.objs.size + 1) (Obj.mapSeq fun _ => (#[] : Array Value))).get? (s.heap.objs.size + 1) = some (seqObj "list" #[] e1') := ⟨_, get?_update_seq ho fun _ => #[]⟩
            have hkS : (((copyHeap s.heap its).update (s.heap.objs.size + 1) (Obj.mapSeq fun _ => (#[] : Array Value))).push (seqObj "tuple" its.toArray 0)).objs.size = s.heap.objs.size + 3 := by rw [size_push', Heap.size_update, hsz0]
            unfold ksk_tree
            refine wpAny_bind (listItems_at ho rfl ?_)
            refine wpAny_bind (listUpdate_at ho rfl ?_ (by rw [List.size_toArray]; exact hits) (Nat.zero_le _))
            refine wpAny_bind (seqEpoch_at ho1 rfl ?_)
            refine wpAny_bind (wpAny_newTuple ?_ (by show its.length ≤ _; exact hits))
            refine wpAny_bind (wpAny_newList ?_ (Nat.zero_le _))
            refine wpAny_holding ?_
            have old : ∀ b o, s.heap.get? b = some o → ((((copyHeap s.heap its).update (s.heap.objs.size + 1) (Obj.mapSeq fun _ => (#[] : Array Value))).push (seqObj "tuple" its.toArray 0)).push (seqObj "list" #[] 0)).get? b = some o := fun b o q =>
              Heap.get?_push_of_some _ (Heap.get?_push_of_some _ ((Heap.get?_update_ne _ _ _ _ (Nat.ne_of_lt (Nat.lt_succ_of_lt (Heap.lt_size q)))).trans (copyHeap_old q)))
            have I3 := I.kept (t' := s.toks) old
            refine sortK_rest (a := s.heap.objs.size + 1) (Γ := Γ) (H := H) (n := n) (ρ := ρ2) (h := h2) (xs := xs) (ks := ks) (s := { s with heap := (((copyHeap s.heap its).update (s.heap.objs.size + 1) (Obj.mapSeq fun _ => (#[] : Array Value))).push (seqObj "tuple" its.toArray 0)).push (seqObj "list" #[] 0) })
              (kS := (((copyHeap s.heap its).update (s.heap.objs.size + 1) (Obj.mapSeq fun _ => (#[] : Array Value))).push (seqObj "tuple" its.toArray 0)).objs.size) hr.units I3 hr3 (own_of I (Nat.le_succ _)) (own_of I (by rw [hkS]; omega)) (Nat.ne_of_gt (by rw [hkS]; omega))
              (I.hok.fresh (Nat.le_succ _)) (I.hok.fresh (Nat.le_trans (Nat.le_add_right _ 3) (Nat.le_of_eq hkS.symm))) (Heap.get?_push_of_some _ (Heap.get?_push_of_some _ ho1)) (Heap.get?_push_size _ rfl) (each_of rs rvv) hlen c2 m6 (by rw [m5]; exact c1) ?turn ?fin
            case turn =>
              intro s4 H4 j x kd v u' hxj hkj I4 x4 hr4 rx rvx
              have hkr := allM_at e2 hxj hkj
              unfold keyR at hkr
              cases e5 : fb (some x :: (capD E js ++ List.replicate (N.length - 1 - (capD E js).length) none)) [] with
              | none => rw [e5] at hkr; cases hkr
              | some r5 =>
                obtain ⟨o5, h5⟩ := r5
                rw [e5] at hkr
                cases o5 with
                | exc c fs => cases hkr
                | ok d5 =>
                  simp only at hkr
                  cases e6 : frzR d5 h5 with
                  | none => rw [e6] at hkr; cases hkr
                  | some p6 =>
                    obtain ⟨d6, h6⟩ := p6
                    rw [e6] at hkr
                    cases hkr
                    have hfa := x4.keep f _ hf hf3 lamO_ne
                    have hca := x4.keep c' _ hc hc3 codeO_ne
                    have caps : Caps X (cloFrom X.env.cells scope.names []) fr js := Caps.made I4.ok (ndef_free hfr) (ndef_fr hfr) hjs
                    refine lam_run (N := N) (ps := [y]) (fr := fr) (ws := js.map (slotAt σ)) (vs := [v]) (k := k) S (fun pm ctv us hl => ?_) hfa.1 hca.1 (cells_of I4 caps) (hr.in1.in1) I4.env0.in1.in1 rfl (.cons rvx .nil) (fun hrk => hb f c' s4 H4 hrk) ?_
                    · match us, hl with
                      | [u], _ => exact hbind _ _ _ _ _ u
                    · have erA : EnvR X Γ n ρ2 H4 E σ := (er.mono x3).mono x4
                      refine ⟨_, [], 0, lend n ρ2, lam_env (X := X) (N := N) (js := js) rfl rfl erA rx, ⟨rfl, fun i j hi => absurd hi (Nat.not_lt_zero _), fun i hi => absurd hi (Nat.not_lt_zero _), lend_live hr4, fun i o e => by simp at e, lend_tab hr4.tab⟩, ?_⟩
                      rw [e5]
                      intro v' n' ρ' H' xx hr' rv'
                      obtain ⟨ρ'', x7, hr7, r7⟩ := frzR_ok hr' rv' e6
                      have xa := xx.trans x7
                      have xb : Ext 0 (lend n ρ2) H4 0 (lend n ρ2) H' := ⟨⟨Nat.le_refl _, fun _ _ => rfl, fun b o h f t => ⟨(xa.keep b o h f t).1, f⟩⟩, fun _ z => z, xa.bkeep⟩
                      have tb : TabF Γ.T 0 (lend n ρ2) H' := hr7.tab.keep fun b o hb f => ⟨hb, fun z => f.1 (xa.bans b z), fun i hi => absurd hi (Nat.not_lt_zero _)⟩
                      exact ⟨lend_ext xb, lend_back hr4 xb tb, r7.keep0 fun b o hb f _ => ⟨hb, lend_free.mp ⟨fun z => f.1 (xa.bans b z), fun i hi => absurd hi (Nat.not_lt_zero _)⟩⟩⟩
            case fin =>
              intro H5 s5 out cc I5 x5 hr5 na5 ha5 eo
              rw [m5] at eo
              obtain ⟨os, o1, o2⟩ := of_each eo
              have lo : os.length ≤ sizeLine := by
                have z := o1.length
                rw [byKeys_eq, List.length_map, List.length_mergeSort, List.length_zip] at z
                omega
              have ha6 : s5.heap.get? (s.heap.objs.size + 1) = some { cls := .type "list", data := .seq (List.toArray out) cc } := ha5
              have new : ObjOk X.prog X.w (upd H5 (s.heap.objs.size + 1) (.lst os)) s5.heap (s.heap.objs.size + 1) (.lst os) := ⟨lo, out, cc, o2, ha6⟩
              refine ⟨rfl, .ref (s.heap.objs.size + 1), upd H5 (s.heap.objs.size + 1) (.lst os), ?_, rfl, ?_⟩
              · exact inv_adopt I5 na5 (own_of I (Nat.le_succ _)) new
              · have xt := x3.trans x5
                exact q _ n ρ2 _ (xt.trans (Ext.new na5)) (hr5.new na5) (.lst upd_same (hr5.fresh na5) (o1.monoP (Ext.new na5)))
          · rw [if_neg hcs] at q; exact q.elim
    | _ => exact q.elim
end
end MP
set_option Elab.async false
set_option linter.all false
set_option maxRecDepth 100000
set_option maxHeartbeats 400000
/-! MQC: sorted(e, key=lambda x: body), the expression. -/
namespace MP
open PySem PySem.Spec PySem.Calls PySem.W PyProof.Rows L2 LamX NdefX
section
variable {X : Cx} {Γ : Gm} {W : WX}
def lamQ (X : Cx) (Γ : Gm) (params : Arguments) (body : Expr) (scope : Scope) (n1 : Nat) (ρ1 : Rho) (H1 : Hp) (h1 : AH) : List V → Hp → Prop := fun zs H2 => ∃ f c', zs = [.ref f] ∧ Ext n1 ρ1 H1 n1 ρ1 H2 ∧ HR X Γ n1 ρ1 H2 h1 ∧ H2 f = some (LamO f (X.env.qual ++ "<lambda>") params body scope (cloFrom X.env.cells scope.names []) c') ∧ Free n1 ρ1 f ∧
      H2 c' = some (CodeO c' (X.env.qual ++ "<lambda>")) ∧ Free n1 ρ1 c'
theorem de_sortK {e : Expr} {params : Arguments} {body : Expr} {scope : Scope} {p lpos kpos pos : Pos} {g : Env' → AH → Res (List D)} {fb : Ev} {N fr : List Str} {y : Str} {js : List Nat} {nm : Nat → Nat → Str} {c P : Addr} {k : Nat} (hg : Gl X "sorted") (hm0 : X.mg "sorted" = none)
    (TB : TabB X.base X.mg c P) (hcode : X.env.code = .ref c) (hmT : (P, nm) ∈ Γ.T) (hn : nm lpos.line lpos.col = X.env.qual ++ "<lambda>") (hu : ∀ p ∈ Γ.T, p.1 = P → p.2 = nm) (hdef : defaultsOf params X.env = ([], []))
    (S : NScope N [y] fr scope) (hfr : ndefB X.env.scope scope fr = true) (hjs : js.map (fun j => X.N[j]?) = fr.map some) (hr : Room (k + 3) X.A)
    (hbind : ∀ (q : Str) (cl : List (Str × Addr)) (pm cv ctv u : Value), bindArgs (PySem.W.kla_fn "<lambda>" q params body scope cl pm cv ctv) ⟨[u], []⟩ = pure [(y, u)])
    (hb : ∀ (f c' : Addr) (s1 : Shared) (H1 : Hp), Room k (X.A.in1.in1.deeper (envF ⟨"<lambda>", X.env.qual ++ "<lambda>", params, [], scope, cloFrom X.env.cells scope.names [], c'⟩ f s1.heap.objs.size)) →
      DE (ncx (L2.CX X.prog X.w) X.prog X.w X.K X.mg X.base N ⟨"<lambda>", X.env.qual ++ "<lambda>", params, [], scope, cloFrom X.env.cells scope.names [], c'⟩ f X.A.in1.in1 X.stack s1 H1 (fun _ _ _ => False)) Γ W0 body fb)
    (ha : DA X Γ W [e] g) (he : backTo pos (starEach [e] X.env) = (false, eval e X.env) :: backTo pos (starEach [] X.env)) (hpl : (backTo pos (starEach [e] X.env)).any (·.1) = false) :
    DE X Γ W (.Call (.Name "sorted" p) [e] [⟨some "key", .Lambda params body scope lpos, kpos⟩] pos) (evSortK fb N.length js g) := by
  refine ⟨fun pins s σ H Q I ⟨E, h, n, ρ, er, hr0, q⟩ => ?_⟩
  refine wpAny_Call_Name_kw (ld_blt I hg hm0 (by rfl) ?_ (by decide) (by decide))
  have hk := pk_cons (nm := some "key") (kpos := kpos) (pe_lamF (body := body) TB hcode hmT hn hu hdef (ndef_free hfr)) (pk_nil (X := X))
  have rdA := ha.run pos pins s σ H _ I ⟨E, h, n, ρ, er, hr0, Post.bind (R := RelTs X.w X.K Γ) q⟩
  refine PyProof.Rows.callWith_kw (thn rdA fun us s1 ⟨vs, H1, I1, r1, ds, h1, n1, ρ1, x1, hr1, rd, q1⟩ => ?_) he hpl (by rfl) (by rfl)
  have rdK := hk.run pos pins s1 σ H1 (lamQ X Γ params body scope n1 ρ1 H1 h1) I1 ⟨h1, n1, ρ1, hr1, fun f c' H2 x2 hr2 a1 a2 a3 a4 => ⟨f, c', rfl, x2, hr2, a1, a2, a3, a4⟩⟩
  refine thn rdK fun ws s2 ⟨zs, H2, I2, r2, f, c', ez, x2, hr2, hf, hff, hc, hcf⟩ => ?_
  subst ez
  cases r2 with
  | cons rw rn =>
    cases rn
    cases rw
    cases rd with
    | nil => exact q1.elim
    | cons rd1 rd2 =>
      cases rd2 with
      | cons _ _ => exact q1.elim
      | nil =>
        cases r1 with
        | cons ru rn =>
          cases rn
          show wpAny _ _ (call (.builtin "sorted") [_] [(Str.ofString "key", .ref f)]) _ _ _
          exact sortK_call S hfr hjs hr hbind hb I2 ((er.mono x1).mono x2) hr2 hf hff hc hcf (rd1.mono x2) ru (Post.mono x2 q1)
end
end MP
set_option Elab.async false
set_option linter.all false
set_option maxRecDepth 100000
set_option maxHeartbeats 400000
/-! MQD: what the top has left: constants, classes, properties; one Hook. -/
namespace MP
open PySem PySem.Spec PyProof.Rows L2
/-! ### a constant value in K -/
mutual
def relK (K : PySem.W.Frag) : D → Value → Bool
  | .non, .none => true
  | .bl b, .bool c => b == c
  | .int i, .int j _ => decide (i = j)
  | .str x, .str y _ => decide (x = y)
  | .tup ds, .ref a => (match K.lookup a with
    | some ⟨.type c, none, .seq its _, _⟩ => decide (c = "tuple") && (decide (its.size ≤ sizeLine) && relKs K ds its.toList)
    | _ => false)
  | _, _ => false
def relKs (K : PySem.W.Frag) : List D → List Value → Bool
  | [], [] => true
  | d :: ds, u :: us => relK K d u && relKs K ds us
  | _, _ => false
end
section
variable {K : PySem.W.Frag}
mutual
theorem relK_ok : ∀ {d : D} {u : Value}, relK K d u = true → ∃ v, RelV v u ∧ ∀ (w : World) (Γ : Gm) (n : Nat) (ρ : Rho) (H : Hp) (m : Nat), RelD w K Γ n ρ H m d v
  | .non, u, h => by
    cases u with
    | none => exact ⟨.non, rfl, fun _ _ _ _ _ _ => .non⟩
    | _ => unfold relK at h; cases h
  | .bl b, u, h => by
    cases u with
    | bool c =>
      unfold relK at h
      have e : b = c := eq_of_beq h
      subst e
      exact ⟨.bl b, rfl, fun _ _ _ _ _ _ => .bl b⟩
    | _ => unfold relK at h; cases h
  | .int i, u, h => by
    cases u with
    | int j t =>
      unfold relK at h
      have e : i = j := of_decide_eq_true h
      subst e
      exact ⟨.int i, ⟨t, rfl⟩, fun _ _ _ _ _ _ => .int i⟩
    | _ => unfold relK at h; cases h
  | .str x, u, h => by
    cases u with
    | str y t =>
      unfold relK at h
      have e : x = y := of_decide_eq_true h
      subst e
      exact ⟨.str x, ⟨t, rfl⟩, fun _ _ _ _ _ _ => .str x⟩
    | _ => unfold relK at h; cases h
  | .tup ds, u, h => by
    cases u with
    | ref a =>
      unfold relK at h
      cases q : K.lookup a with
      | none => rw [q] at h; cases h
      | some o =>
        obtain ⟨oc, od, dt, osl⟩ := o
        rw [q] at h
        cases oc with
        | type c =>
          cases od with
          | none =>
            cases dt with
            | seq its z =>
              obtain ⟨h1, h2⟩ := Bool.and_eq_true_iff.mp (show (decide (c = "tuple") && (decide (its.size ≤ sizeLine) && relKs K ds its.toList)) = true from h)
              obtain ⟨h3, h4⟩ := Bool.and_eq_true_iff.mp h2
              obtain ⟨vs, rv, rd⟩ := relKs_ok h4
              exact ⟨.ref a, rfl, fun w Γ n ρ H m => .tupK q (congrArg Value.type (of_decide_eq_true h1)) rfl rfl (of_decide_eq_true h3) rv (rd w Γ n ρ H 0)⟩
            | _ => cases h
          | some b => cases dt <;> cases h
        | _ => cases od <;> cases dt <;> cases h
    | _ => unfold relK at h; cases h
  | .lst _, u, h => by unfold relK at h; cases u <;> cases h
  | .dct _, u, h => by unfold relK at h; cases u <;> cases h
  | .obj _ _, u, h => by unfold relK at h; cases u <;> cases h
  | .ref _, u, h => by unfold relK at h; cases u <;> cases h
theorem relKs_ok : ∀ {ds : List D} {us : List Value}, relKs K ds us = true → ∃ vs, Vals vs us ∧ ∀ (w : World) (Γ : Gm) (n : Nat) (ρ : Rho) (H : Hp) (m : Nat), RelDs w K Γ n ρ H m ds vs
  | [], [], _ => ⟨[], .nil, fun _ _ _ _ _ _ => .nil⟩
  | [], _ :: _, h => by unfold relKs at h; cases h
  | _ :: _, [], h => by unfold relKs at h; cases h
  | d :: ds, u :: us, h => by
    unfold relKs at h
    obtain ⟨h1, h2⟩ := Bool.and_eq_true_iff.mp h
    obtain ⟨v, rv, rd⟩ := relK_ok h1
    obtain ⟨vs, rvs, rds⟩ := relKs_ok h2
    exact ⟨v :: vs, .cons rv rvs, fun w Γ n ρ H m => .cons (rd w Γ n ρ H m) (rds w Γ n ρ H m)⟩
end
end
/-- a name of the top that is a constant -/
def gloK (K : PySem.W.Frag) (x : Str) (d : D) : Bool := match PySem.W.nsIn K mainGlobals x with
  | some (some u) => relK K d u
  | _ => false
theorem gloK_ok {K : PySem.W.Frag} {h : Heap} {mg : Str → Option Value} (X : K.In h) (G : h.Ns mainGlobals mg) {x : Str} {d : D} (c : gloK K x d = true) : ∃ v u, mg x = some u ∧ RelV v u ∧ ∀ (w : World) (Γ : Gm) (n : Nat) (ρ : Rho) (H : Hp) (m : Nat), RelD w K Γ n ρ H m d v := by
  unfold gloK at c
  cases e : PySem.W.nsIn K mainGlobals x with
  | none => rw [e] at c; cases c
  | some o =>
    rw [e] at c
    cases o with
    | none => cases c
    | some u =>
      obtain ⟨v, r, rd⟩ := relK_ok c
      exact ⟨v, u, PySem.W.mg_of X G e, r, rd⟩
/-- a dict of the top, texts as its keys -/
def entK (K : PySem.W.Frag) : List (Str × D) → List DictEntry → Bool
  | [], [] => true
  | (x, d) :: kvs, e :: es => (match e.key with
    | .str y _ => decide (x = y)
    | _ => false) && (relK K d e.val && entK K kvs es)
  | _, _ => false
def dctK (K : PySem.W.Frag) (x : Str) (kvs : List (Str × D)) : Bool := match K.lookup (He.ga K x) with
  | some ⟨_, _, .dict es _, _⟩ => entK K kvs es.toList && decide (kvs.map (·.1)).Nodup
  | _ => false
abbrev strD (kvs : List (Str × D)) : List (D × D) := kvs.map fun p => (.str p.1, p.2)
theorem text_hash {w : World} {x : Str} : (NestedKey.text x).hash w = PyData.keyHash w.params x := by
  first | rfl | simp [NestedKey.hash] | (unfold NestedKey.hash; rfl)
theorem entK_ok {K : PySem.W.Frag} {w : World} : ∀ {kvs : List (Str × D)} {es : List DictEntry}, entK K kvs es = true → PySem.W.KeysLit w.params es → ∀ (Γ : Gm) (n : Nat) (ρ : Rho) (H : Hp), RelKs w K Γ n ρ H (strD kvs) es
  | [], [], _, _ => fun _ _ _ _ => .nil
  | [], _ :: _, h, _ => by unfold entK at h; cases h
  | _ :: _, [], h, _ => by unfold entK at h; cases h
  | (x, d) :: kvs, e :: es, h, l => by
    unfold entK at h
    obtain ⟨h1, h2⟩ := Bool.and_eq_true_iff.mp h
    obtain ⟨h3, h4⟩ := Bool.and_eq_true_iff.mp h2
    obtain ⟨⟨y, t, ey, eh⟩, l'⟩ := l
    rw [ey] at h1
    have exy : x = y := of_decide_eq_true h1
    subst exy
    obtain ⟨v, rv, rd⟩ := relK_ok h3
    exact fun Γ n ρ H => .cons (.str x) (show RelV (.str x) e.key from ⟨t, ey⟩) rfl (by rw [eh]; exact text_hash.symm) (rd w Γ n ρ H 0) rv (entK_ok h4 l' Γ n ρ H)
theorem strD_nd {kvs : List (Str × D)} (h : (kvs.map (·.1)).Nodup) : KNd (strD kvs) := by
  unfold KNd strD
  rw [List.map_map]
  have e : ((fun p : D × D => keyOf p.1) ∘ fun p : Str × D => ((D.str p.1, p.2) : D × D)) = fun p : Str × D => some (NestedKey.text p.1) := rfl
  rw [e]
  have : (kvs.map fun p : Str × D => some (NestedKey.text p.1)) = (kvs.map (·.1)).map fun x => some (NestedKey.text x) := by rw [List.map_map]; rfl
  rw [this]
  exact List.Pairwise.map _ (fun a b hne e => hne (by injection e with e; injection e)) h
theorem dctK_ok {K : PySem.W.Frag} {w : World} {x : Str} {kvs : List (Str × D)} {es' : Array DictEntry} {m' : Nat} (c : dctK K x kvs = true) (t : KDict K w (He.ga K x) es' m') : ∀ (Γ : Gm) (n : Nat) (ρ : Rho) (H : Hp) (m : Nat), RelD w K Γ n ρ H m (.dct (strD kvs)) (.ref (He.ga K x)) := by
  unfold dctK at c
  rw [t.at_] at c
  obtain ⟨c1, c2⟩ := Bool.and_eq_true_iff.mp (show (entK K kvs es'.toList && decide (kvs.map (·.1)).Nodup) = true from c)
  exact fun Γ n ρ H m => .dctK t.at_ ⟨rfl, rfl, rfl⟩ rfl t.low (strD_nd (of_decide_eq_true c2)) (entK_ok c1 t.lit Γ n ρ H)
/-! ### classes -/
def ownB (K : PySem.W.Frag) (c : Str) : Bool := (He.Fa.cls c).ok K && (He.eqO (PySem.W.findIn K (.ref (He.ga K c)) "__class__") (some (some (.builtin "object.__class__"))) && (He.eqO (PySem.W.specialIn K (.builtin "object.__class__") "__get__") (some (some (.builtin "getset_descriptor.__get__"))) &&
  (decide (PySem.W.takesIn K (.builtin "object.__class__") = some true) && decide (PySem.W.mroIn K (He.ga K c) (.type "object") = some true))))
theorem ownB_ok {K : PySem.W.Frag} {c : Str} (h : ownB K c = true) : OwnC K (He.ga K c) := by
  unfold ownB at h
  obtain ⟨h1, h⟩ := He.ba h
  obtain ⟨h2, h⟩ := He.ba h
  obtain ⟨h3, h⟩ := He.ba h
  obtain ⟨h4, h5⟩ := He.ba h
  exact ⟨He.cls_ok h1, He.eqO_ok h2, He.eqO_ok h3, of_decide_eq_true h4, of_decide_eq_true h5⟩
def btags : List String := ["NoneType", "bool", "int", "str", "tuple", "list", "dict"]
/-- isinstance, of a built-in class: the classes for which it is so -/
def isaB (T : List String) (own : List Str) : Tag → Option Bool
  | .b a => if btags.contains a = true then some (T.contains a) else none
  | .o c => if own.contains c = true then some false else none
def isaO (C : Str) (own : List Str) : Tag → Option Bool
  | .b a => if btags.contains a = true then some false else none
  | .o c => if own.contains c = true then some (decide (c = C)) else none
def isaCk (K : PySem.W.Frag) (own : List Str) (u : Value) (isa : Tag → Option Bool) : Bool :=
  (btags.all fun a => decide (PySem.W.kitOne K (.type a) u = isa (.b a))) && (own.all fun c => ownB K c && decide (PySem.W.kitOne K (.ref (He.ga K c)) u = isa (.o c)))
theorem isa_ok {X : Cx} {Γ : Gm} {own : List Str} {u : Value} {isa : Tag → Option Bool} (hΓ : ∀ c, Γ.ad c = He.ga X.K c) (hb : ∀ a b, isa (.b a) = some b → a ∈ btags) (ho : ∀ c b, isa (.o c) = some b → c ∈ own) (h : isaCk X.K own u isa = true) : IsaOk X Γ u isa := by
  obtain ⟨h1, h2⟩ := He.ba h
  refine ⟨fun c b e => ?_, fun t b e => ?_⟩
  · have z := List.all_eq_true.mp h2 c (ho c b e)
    rw [show Γ.ad c = _ from hΓ c]
    exact ownB_ok (He.ba z).1
  · cases t with
    | b a => rw [← e]; exact of_decide_eq_true (List.all_eq_true.mp h1 a (hb a b e))
    | o c =>
      have z := List.all_eq_true.mp h2 c (ho c b e)
      rw [← e]
      show PySem.W.kitOne X.K (.ref (Γ.ad c)) u = _
      rw [hΓ c]
      exact of_decide_eq_true (He.ba z).2
theorem isaB_b {T : List String} {own : List Str} {a : String} {b : Bool} (e : isaB T own (.b a) = some b) : a ∈ btags := by
  unfold isaB at e
  simp only at e
  split at e
  · rename_i z; exact List.contains_iff_mem.mp z
  · cases e
theorem isaB_o {T : List String} {own : List Str} {c : Str} {b : Bool} (e : isaB T own (.o c) = some b) : c ∈ own := by
  unfold isaB at e
  simp only at e
  split at e
  · rename_i z; exact List.contains_iff_mem.mp z
  · cases e
theorem isaO_b {C : Str} {own : List Str} {a : String} {b : Bool} (e : isaO C own (.b a) = some b) : a ∈ btags := by
  unfold isaO at e
  simp only at e
  split at e
  · rename_i z; exact List.contains_iff_mem.mp z
  · cases e
theorem isaO_o {C : Str} {own : List Str} {c : Str} {b : Bool} (e : isaO C own (.o c) = some b) : c ∈ own := by
  unfold isaO at e
  simp only at e
  split at e
  · rename_i z; exact List.contains_iff_mem.mp z
  · cases e
theorem isaB_ok {X : Cx} {Γ : Gm} {own : List Str} {u : Value} {T : List String} (hΓ : ∀ c, Γ.ad c = He.ga X.K c) (h : isaCk X.K own u (isaB T own) = true) : IsaOk X Γ u (isaB T own) := isa_ok hΓ (fun _ _ => isaB_b) (fun _ _ => isaB_o) h
theorem isaO_ok {X : Cx} {Γ : Gm} {own : List Str} {u : Value} {C : Str} (hΓ : ∀ c, Γ.ad c = He.ga X.K c) (h : isaCk X.K own u (isaO C own) = true) : IsaOk X Γ u (isaO C own) := isa_ok hΓ (fun _ _ => isaO_b) (fun _ _ => isaO_o) h
/-- no class of one's own has these as attributes -/
def noatB (K : PySem.W.Frag) (own fs : List Str) : Bool := own.all fun c => fs.all fun f => (He.Fa.noat c f).ok K
theorem noatB_ok {K : PySem.W.Frag} {own fs : List Str} (h : noatB K own fs = true) {c f : Str} (hc : c ∈ own) (hf : f ∈ fs) : NoAttr K (He.ga K c) f := He.noat_ok (List.all_eq_true.mp (List.all_eq_true.mp h c hc) f hf)
/-! ### properties -/
def pAd (K : PySem.W.Frag) (c f : Str) : Addr := match PySem.W.findIn K (.ref (He.ga K c)) f with
  | some (some (.ref p)) => p
  | _ => 0
def gAd (K : PySem.W.Frag) (c f : Str) : Addr := match PySem.W.recIn K (pAd K c f) "property" with
  | some (.ref g :: _) => g
  | _ => 0
def propB (K : PySem.W.Frag) (c f : Str) : Bool := He.eqO (PySem.W.findIn K (.ref (He.ga K c)) f) (some (some (.ref (pAd K c f)))) && (He.eqO (PySem.W.specialIn K (.ref (pAd K c f)) "__get__") (some (some (.builtin "property.__get__"))) && (decide (PySem.W.takesIn K (.ref (pAd K c f)) = some true) && (match PySem.W.recIn K (pAd K c f) "property" with
  | some (.ref _ :: _) => true
  | _ => false)))
theorem propB_ok {K : PySem.W.Frag} {c f : Str} (h : propB K c f = true) : PropOf K (He.ga K c) f (pAd K c f) (gAd K c f) := by
  unfold propB at h
  obtain ⟨h1, h⟩ := He.ba h
  obtain ⟨h2, h⟩ := He.ba h
  obtain ⟨h3, h4⟩ := He.ba h
  refine ⟨He.eqO_ok h1, He.eqO_ok h2, of_decide_eq_true h3, ?_⟩
  unfold gAd
  cases e : PySem.W.recIn K (pAd K c f) "property" with
  | none => rw [e] at h4; cases h4
  | some l =>
    rw [e] at h4
    cases l with
    | nil => cases h4
    | cons u r =>
      cases u with
      | ref g => exact ⟨r, rfl⟩
      | _ => cases h4
/-! ### a def at an address -/
def fnWa (K : PySem.W.Frag) (a : Addr) : He.FnW := match K.lookup a with
  | some ⟨_, _, .func fd, _⟩ => some (fd.name, fd.qualname, fd.params, fd.body, fd.scope, fd.globals, fd.closure, fd.builtins)
  | _ => none
def okA (K : PySem.W.Frag) (a : Addr) (d : He.DefD) : Bool := PySem.W.keepIn K (.ref a) && (match K.lookup a with
  | some ⟨_, _, .func fd, _⟩ => PySem.W.codeIn K fd.code d.qual && (He.dflB K fd.defaults (d.dvs K) && He.kwdB K fd.kwdefaults (d.kws K))
  | _ => false)
theorem funDa {K : PySem.W.Frag} {a : Addr} {d : He.DefD} (e : fnWa K a = d.val) (c : okA K a d = true) : ∃ fd, FunD K d.name d.qual d.params d.body d.scope (d.dvs K) (d.kws K) a fd := by
  obtain ⟨kp, c2⟩ := He.ba c
  unfold fnWa at e
  cases q : K.lookup a with
  | none =>
    rw [q] at c2
    cases c2
  | some o =>
    obtain ⟨oc, od, dt, osl⟩ := o
    rw [q] at c2 e
    cases dt with
    | func fd =>
      obtain ⟨n1, n2, n3, n4, n5, n6, n7, n8, n9, n10, n11, n12, n13, n14, n15⟩ := fd
      have e2 : (some (n1, n2, n3, n4, n5, n6, n7, n15) : He.FnW) = some (d.name, d.qual, d.params, .stmts d.body, d.scope, mainGlobals, [], builtinsNs) := e
      simp only [Option.some.injEq, Prod.mk.injEq] at e2
      obtain ⟨h1, h2, h3, h4, h5, h6, h7, h8⟩ := e2
      subst h1 h2 h3 h4 h5 h6 h7 h8
      have c3 : (PySem.W.codeIn K n13 d.qual && (He.dflB K n8 (d.dvs K) && He.kwdB K n9 (d.kws K))) = true := c2
      obtain ⟨k1, k2⟩ := He.ba c3
      obtain ⟨k3, k4⟩ := He.ba k2
      exact ⟨_, ⟨oc, od, n8, n9, n10, n11, n12, n13, n14, osl, rfl, q, k1, He.dflB_ok k3, He.kwdB_ok k4⟩, kp⟩
    | _ => cases c2
/-! ### the Hook -/
/-- a property's getter -/
structure PropD where
  c : Str
  f : Str
  d : He.DefD
abbrev AlM : Type := He.AlX × List He.FnW
/-- an exception's own __init__, which closes over __class__ -/
structure XiD where
  c : Str
  d : He.DefD
def fnWx (K : PySem.W.Frag) (a : Addr) : He.FnW := match K.lookup a with
  | some ⟨_, _, .func fd, _⟩ => some (fd.name, fd.qualname, fd.params, fd.body, fd.scope, fd.globals, fd.closure.map fun p => (p.1, 0), fd.builtins)
  | _ => none
def XiD.val (x : XiD) : He.FnW := some (x.d.name, x.d.qual, x.d.params, .stmts x.d.body, x.d.scope, mainGlobals, [("__class__", 0)], builtinsNs)
structure HkD where
  n : Nat
  fa : List He.Fa
  fn : List He.DefD
  ts : List He.Tab
  tf : List He.Defn
  pd : List PropD
  ex : PySem.W.Frag → List Bool
  xi : List XiD
def wsK (k : HkD) (K : PySem.W.Frag) : List He.FnW := (k.pd.map fun p => fnWa K (gAd K p.c p.f)) ++ k.xi.map fun x => fnWx K (He.ma K (He.ga K x.c) "__init__")
def wsV (k : HkD) : List He.FnW := (k.pd.map fun p => p.d.val) ++ k.xi.map XiD.val
def HkD.exB (k : HkD) (K : PySem.W.Frag) : Bool := ((k.ex K).all id) && (k.pd.all fun p => propB K p.c p.f && okA K (gAd K p.c p.f) p.d)
def obsM (k : HkD) (g : Addr → Option Obj) : AlM := (He.obsX k.n k.fa k.fn k.ts k.tf k.exB g, wsK k (He.frT g (He.asD g k.n)))
def valM (k : HkD) (w : World) : AlM := (He.valX k.fn k.ts w, wsV k)
structure SaysM (k : HkD) (w : World) (h : Heap) (K : PySem.W.Frag) : Prop where
  x : He.SaysX k.fa k.fn k.ts k.tf k.exB w h K
  p : wsK k K = wsV k
def hookM (k : HkD) : PySem.W.Hook where
  α := AlM
  obs := fun s => obsM k s.heap.get?
  val := fun w => valM k w
  says := fun w h => ∃ K : PySem.W.Frag, K.In h ∧ SaysM k w h K
  of := fun _ _ e => ⟨_, He.frT_in, He.saysX_of (congrArg (fun z : AlM => z.1) e), congrArg (fun z : AlM => z.2) e⟩
  keeps := fun _ _ _ ⟨K, hK, c⟩ k => ⟨K, PySem.W.Frag.In.keeps hK k, ⟨⟨c.x.t, c.x.more, c.x.hd, c.x.out, fun p hp => k _ _ (c.x.empty p hp)⟩, c.p⟩⟩
theorem obsM_eq {k : HkD} {g : Addr → Option Obj} {s : Shared} (h : ∀ a, g a = s.heap.get? a) : obsM k g = (hookM k).obs s := by
  have e : g = s.heap.get? := funext h
  rw [e] <;> rfl
section
variable {k : HkD} {w : World} {h : Heap} {K : PySem.W.Frag}
theorem SaysM.exAt (c : SaysM k w h K) (i : Nat) {b : Bool} (e : (k.ex K)[i]? = some b) : b = true := List.all_eq_true.mp (He.ba c.x.more).1 b (List.mem_of_getElem? e)
theorem SaysM.fact (c : SaysM k w h K) (i : Nat) {f : He.Fa} (e : k.fa[i]? = some f) : f.ok K = true := c.x.t.d.fact i e
theorem SaysM.def_ (c : SaysM k w h K) (i : Nat) {d : He.DefD} (e : k.fn[i]? = some d) : ∃ fd, FunD K d.name d.qual d.params d.body d.scope (d.dvs K) (d.kws K) (He.fAd K d.at_) fd := c.x.t.d.def_ i e
theorem SaysM.prop (c : SaysM k w h K) (i : Nat) {p : PropD} (e : k.pd[i]? = some p) : PropOf K (He.ga K p.c) p.f (pAd K p.c p.f) (gAd K p.c p.f) ∧ ∃ fd, FunD K p.d.name p.d.qual p.d.params p.d.body p.d.scope (p.d.dvs K) (p.d.kws K) (gAd K p.c p.f) fd := by
  obtain ⟨h1, h2⟩ := He.ba (List.all_eq_true.mp (He.ba c.x.more).2 p (List.mem_of_getElem? e))
  have e2 : (k.pd.map fun p => fnWa K (gAd K p.c p.f))[i]? = (k.pd.map fun p => p.d.val)[i]? := by rw [(List.append_inj c.p (by simp)).1]
  rw [List.getElem?_map, List.getElem?_map, e] at e2
  exact ⟨propB_ok h1, funDa (Option.some.inj e2) h2⟩
theorem SaysM.ini (c : SaysM k w h K) (i : Nat) {x : XiD} (e : k.xi[i]? = some x) : fnWx K (He.ma K (He.ga K x.c) "__init__") = x.val := by
  have e2 : (k.xi.map fun x => fnWx K (He.ma K (He.ga K x.c) "__init__"))[i]? = (k.xi.map XiD.val)[i]? := by rw [(List.append_inj c.p (by simp)).2]
  rw [List.getElem?_map, List.getElem?_map, e] at e2
  exact Option.some.inj e2
theorem SaysM.tab (c : SaysM k w h K) (i : Nat) {t : He.Tab} (e : k.ts[i]? = some t) : ∃ es n, KDict K w (t.1 K) es n := c.x.t.tab i e
end
end MP
set_option Elab.async false
set_option linter.all false
set_option maxRecDepth 100000
set_option maxHeartbeats 400000
/-! MQE: the rules in short forms; further small rules. -/
namespace MP
open PySem PySem.Spec PyProof.Rows L2
section
variable {X : Cx} {Γ : Gm} {W : WX} {pos : Pos}
theorem xv (i : Nat) {x : Str} (hN : X.N[i]? = some x := by rfl) (hv : Vis X.env.scope x := by first | exact .inl rfl | exact .inr (.inl rfl) | exact .inr (.inr rfl)) (hd : (x == ("__debug__" : Str)) = false := by decide) (hcd : (x == ("__classdict__" : Str)) = false := by decide) :
    DE X Γ W (.Name x pos) (evVar i) := de_var (pe_var hN hv hd hcd)
theorem xint {i : Int} {j : Nat} : DE X Γ W (.Constant (.int i) j pos) (evC (.int i)) := de_c pe_int fun _ _ _ => .int i
theorem xstr {x : Str} {j : Nat} : DE X Γ W (.Constant (.str x) j pos) (evC (.str x)) := de_c pe_str fun _ _ _ => .str x
theorem xnon {j : Nat} : DE X Γ W (.Constant .none j pos) (evC .non) := de_c pe_non fun _ _ _ => .non
theorem xtrue {j : Nat} : DE X Γ W (.Constant (.bool true) j pos) (evC (.bl true)) := de_c pe_bl fun _ _ _ => .bl true
theorem xfalse {j : Nat} : DE X Γ W (.Constant (.bool false) j pos) (evC (.bl false)) := de_c pe_bl fun _ _ _ => .bl false
/-- a constant of the top -/
theorem xg {x : Str} {d : D} (h : ∃ v u, X.mg x = some u ∧ RelV v u ∧ ∀ (w : World) (Γ : Gm) (n : Nat) (ρ : Rho) (H : Hp) (m : Nat), RelD w X.K Γ n ρ H m d v) (hg : Gl X x := by rfl) (hd : (x == ("__debug__" : Str)) = false := by decide) : DE X Γ W (.Name x pos) (evC d) := by
  obtain ⟨v, u, hm, r, rd⟩ := h
  exact de_c (pe_glob hg hm r hd) fun n ρ H => rd _ _ _ _ _ _
theorem xgd {x : Str} {d : D} {a : Addr} (hm : X.mg x = some (.ref a)) (h : ∀ (Γ : Gm) (n : Nat) (ρ : Rho) (H : Hp) (m : Nat), RelD X.w X.K Γ n ρ H m d (.ref a)) (hg : Gl X x := by rfl) (hd : (x == ("__debug__" : Str)) = false := by decide) : DE X Γ W (.Name x pos) (evC d) :=
  de_c (pe_glob (v := .ref a) hg hm rfl hd) fun n ρ H => h _ _ _ _ _
variable {a b c : Expr} {fa fb fc : Ev}
theorem xadd (ha : DE X Γ W a fa) (hb : DE X Γ W b fb) : DE X Γ W (.BinOp a .Add b pos) (evBin addD fa fb) := de_op add_ok ha hb
theorem xsub (ha : DE X Γ W a fa) (hb : DE X Γ W b fb) : DE X Γ W (.BinOp a .Sub b pos) (evBin subD fa fb) := de_op sub_ok ha hb
theorem xmod (ha : DE X Γ W a fa) (hb : DE X Γ W b fb) : DE X Γ W (.BinOp a .Mod b pos) (evBin modD fa fb) := de_op mod_ok ha hb
theorem xeq {k : Nat} (hr : Room k X.A) (ha : DE X Γ W a fa) (hb : DE X Γ W b fb) (hm : behindInMarks .Eq b = false := by rfl) : DE X Γ W (.Compare a [.Eq] [b] pos) (evBin opEq fa fb) := de_cmp (eq_ok hr.units) ha hb hm
theorem xne {k : Nat} (hr : Room k X.A) (ha : DE X Γ W a fa) (hb : DE X Γ W b fb) (hm : behindInMarks .NotEq b = false := by rfl) : DE X Γ W (.Compare a [.NotEq] [b] pos) (evBin opNe fa fb) := de_cmp (ne_ok hr.units) ha hb hm
theorem xlt {k : Nat} (hr : Room k X.A) (ha : DE X Γ W a fa) (hb : DE X Γ W b fb) (hm : behindInMarks .Lt b = false := by rfl) : DE X Γ W (.Compare a [.Lt] [b] pos) (evBin opLt fa fb) := de_cmp (lt_ok hr.units) ha hb hm
theorem xle {k : Nat} (hr : Room k X.A) (ha : DE X Γ W a fa) (hb : DE X Γ W b fb) (hm : behindInMarks .LtE b = false := by rfl) : DE X Γ W (.Compare a [.LtE] [b] pos) (evBin opLe fa fb) := de_cmp (le_ok hr.units) ha hb hm
theorem xgt {k : Nat} (hr : Room k X.A) (ha : DE X Γ W a fa) (hb : DE X Γ W b fb) (hm : behindInMarks .Gt b = false := by rfl) : DE X Γ W (.Compare a [.Gt] [b] pos) (evBin opGt fa fb) := de_cmp (gt_ok hr.units) ha hb hm
theorem xge {k : Nat} (hr : Room k X.A) (ha : DE X Γ W a fa) (hb : DE X Γ W b fb) (hm : behindInMarks .GtE b = false := by rfl) : DE X Γ W (.Compare a [.GtE] [b] pos) (evBin opGe fa fb) := de_cmp (ge_ok hr.units) ha hb hm
theorem xin {k : Nat} (hr : Room k X.A) (ha : DE X Γ W a fa) (hb : DE X Γ W b fb) (hm : behindInMarks .In b = false := by rfl) : DE X Γ W (.Compare a [.In] [b] pos) (evBin opIn fa fb) := de_cmp (in_ok hr.units) ha hb hm
theorem xnotin {k : Nat} (hr : Room k X.A) (ha : DE X Γ W a fa) (hb : DE X Γ W b fb) (hm : behindInMarks .NotIn b = false := by rfl) : DE X Γ W (.Compare a [.NotIn] [b] pos) (evBin opNotIn fa fb) := de_cmp (notin_ok hr.units) ha hb hm
theorem xis (ha : DE X Γ W a fa) (hb : DE X Γ W b fb) (hm : behindInMarks .Is b = false := by rfl) : DE X Γ W (.Compare a [.Is] [b] pos) (evBin opIs fa fb) := de_cmp is_ok ha hb hm
theorem xisnot (ha : DE X Γ W a fa) (hb : DE X Γ W b fb) (hm : behindInMarks .IsNot b = false := by rfl) : DE X Γ W (.Compare a [.IsNot] [b] pos) (evBin opIsNot fa fb) := de_cmp isnot_ok ha hb hm
/-- as tests -/
theorem teq {k : Nat} (hr : Room k X.A) (ha : DE X Γ W a fa) (hb : DE X Γ W b fb) (hm : behindInMarks .Eq b = false := by rfl) : DT X Γ W (.Compare a [.Eq] [b] pos) (tvOf (evBin opEq fa fb)) := dt_cmp (eq_ok hr.units) ha hb hm
theorem tne {k : Nat} (hr : Room k X.A) (ha : DE X Γ W a fa) (hb : DE X Γ W b fb) (hm : behindInMarks .NotEq b = false := by rfl) : DT X Γ W (.Compare a [.NotEq] [b] pos) (tvOf (evBin opNe fa fb)) := dt_cmp (ne_ok hr.units) ha hb hm
theorem tlt {k : Nat} (hr : Room k X.A) (ha : DE X Γ W a fa) (hb : DE X Γ W b fb) (hm : behindInMarks .Lt b = false := by rfl) : DT X Γ W (.Compare a [.Lt] [b] pos) (tvOf (evBin opLt fa fb)) := dt_cmp (lt_ok hr.units) ha hb hm
theorem tle {k : Nat} (hr : Room k X.A) (ha : DE X Γ W a fa) (hb : DE X Γ W b fb) (hm : behindInMarks .LtE b = false := by rfl) : DT X Γ W (.Compare a [.LtE] [b] pos) (tvOf (evBin opLe fa fb)) := dt_cmp (le_ok hr.units) ha hb hm
theorem tgt {k : Nat} (hr : Room k X.A) (ha : DE X Γ W a fa) (hb : DE X Γ W b fb) (hm : behindInMarks .Gt b = false := by rfl) : DT X Γ W (.Compare a [.Gt] [b] pos) (tvOf (evBin opGt fa fb)) := dt_cmp (gt_ok hr.units) ha hb hm
theorem tge {k : Nat} (hr : Room k X.A) (ha : DE X Γ W a fa) (hb : DE X Γ W b fb) (hm : behindInMarks .GtE b = false := by rfl) : DT X Γ W (.Compare a [.GtE] [b] pos) (tvOf (evBin opGe fa fb)) := dt_cmp (ge_ok hr.units) ha hb hm
theorem tin {k : Nat} (hr : Room k X.A) (ha : DE X Γ W a fa) (hb : DE X Γ W b fb) (hm : behindInMarks .In b = false := by rfl) : DT X Γ W (.Compare a [.In] [b] pos) (tvOf (evBin opIn fa fb)) := dt_cmp (in_ok hr.units) ha hb hm
theorem tnotin {k : Nat} (hr : Room k X.A) (ha : DE X Γ W a fa) (hb : DE X Γ W b fb) (hm : behindInMarks .NotIn b = false := by rfl) : DT X Γ W (.Compare a [.NotIn] [b] pos) (tvOf (evBin opNotIn fa fb)) := dt_cmp (notin_ok hr.units) ha hb hm
theorem tis (ha : DE X Γ W a fa) (hb : DE X Γ W b fb) (hm : behindInMarks .Is b = false := by rfl) : DT X Γ W (.Compare a [.Is] [b] pos) (tvOf (evBin opIs fa fb)) := dt_cmp is_ok ha hb hm
theorem tisnot (ha : DE X Γ W a fa) (hb : DE X Γ W b fb) (hm : behindInMarks .IsNot b = false := by rfl) : DT X Γ W (.Compare a [.IsNot] [b] pos) (tvOf (evBin opIsNot fa fb)) := dt_cmp isnot_ok ha hb hm
/-- a <= b <= c -/
theorem xlele {k : Nat} (hr : Room k X.A) (ha : DE X Γ W a fa) (hb : DE X Γ W b fb) (hc : DE X Γ W c fc) (hm : lastMarks [.LtE, .LtE] [b, c] = false := by rfl) : DE X Γ W (.Compare a [.LtE, .LtE] [b, c] pos) (evChain opLe opLe fa fb fc) := de_chain (le_ok hr.units) (le_ok hr.units) ha hb hc hm
theorem tlele {k : Nat} (hr : Room k X.A) (ha : DE X Γ W a fa) (hb : DE X Γ W b fb) (hc : DE X Γ W c fc) (hm : lastMarks [.LtE, .LtE] [b, c] = false := by rfl) : DT X Γ W (.Compare a [.LtE, .LtE] [b, c] pos) (tvOf (evChain opLe opLe fa fb fc)) := dt_chain (le_ok hr.units) (le_ok hr.units) ha hb hc hm
theorem tval {e : Expr} {f : Ev} (p : DE X Γ W e f) (he : ∀ whole, isTrue e X.env whole = (do let v ← whole; standAt e.pos; holding [v] (truthy v)) := by intro _; rfl) : DT X Γ W e (tvOf f) := dt_val p he
theorem twh {e : Expr} {f : Env' → AH → Res Bool} (p : DW X Γ W e f) : DT X Γ W e f := PW.pt p
theorem acons {e : Expr} {es : List Expr} {f : Ev} {g : Env' → AH → Res (List D)} (p : DE X Γ W e f) (q : DA X Γ W es g) (hs : starEach (e :: es) X.env = (false, eval e X.env) :: starEach es X.env := by rfl) : DA X Γ W (e :: es) (avCons f g) := da_cons p q hs
theorem xix {k : Nat} (hr : Room k X.A) (ha : DE X Γ W a fa) (hb : DE X Γ W b fb) (hs : PlainIx b := by exact fun _ _ => rfl) : DE X Γ W (.Subscript a b pos) (evBin ixAny fa fb) := de_ix (ixAny_ok hr.units) ha hb hs
theorem sexpr {e : Expr} {f : Ev} (p : DE X Γ W e f) (hs : swapsWith e none pos.line X.env = pure false := by rfl) : DS X Γ W (.Expr e pos) (svExpr f) := ds_expr p hs
theorem sset (i : Nat) {x : Str} {e : Expr} {pos' : Pos} {f : Ev} (hN : X.N.Nodup) (p : DE X Γ W e f) (hi : X.N[i]? = some x := by rfl) (hx : Loc X.env.scope x := by first | exact .inl rfl | exact .inr rfl) (hs : swapsWith e (some (.Name x pos')) pos.line X.env = pure false := by rfl) (hf : X.fn x = true ∨ X.env.scope.names.lookup x = some .local := by first | exact .inl rfl | exact .inr rfl) :
    DS X Γ W (.Assign [.Name x pos'] e pos) (svSet i f) := ds_set hN hi hx p hs hf
theorem gname (i : Nat) {x : Str} (hN : X.N.Nodup) (hi : X.N[i]? = some x := by rfl) (hx : Loc X.env.scope x := by first | exact .inl rfl | exact .inr rfl) (hf : X.fn x = true ∨ X.env.scope.names.lookup x = some .local := by first | exact .inl rfl | exact .inr rfl) : DG X Γ (.Name x pos) (.name i) := dg_name (pg_name hN hi hx hf)
theorem gcons {e : Expr} {es : List Expr} {t : Tg} {ts : List Tg} (p : DG X Γ e t) (q : DGs X Γ es ts) (hs : (assignEach (e :: es) X.env).map (·.2) = assign e X.env :: (assignEach es X.env).map (·.2) := by rfl) : DGs X Γ (e :: es) (t :: ts) := dgs_cons p q hs
theorem gtup {es : List Expr} {k : Nat} {ts : List Tg} (p : DGs X Γ es ts) (hc : X.calm = true := by rfl) (hn : (assignEach es X.env).length = ts.length := by rfl) (hst : (assignEach es X.env).findIdx? (·.1) = none := by rfl) : DG X Γ (.Tuple es k pos) (.tup ts) := dg_tup hc p hn hst
theorem sasg {tg e : Expr} {f : Ev} {t : Tg} (p : DE X Γ W e f) (g : DG X Γ tg t) (hs : swapsWithSole [tg] e pos.line X.env = pure false := by rfl) (hw : swappedStores [tg] e X.env = pure none := by rfl) (h1 : (assignEach [tg] X.env).map (·.2) = [assign tg X.env] := by rfl) : DS X Γ W (.Assign [tg] e pos) (svAsg t f) := ds_asg p g hs hw h1
theorem spar (i j : Nat) {x y : Str} {px py pt : Pos} {kt k2 : Nat} {pt2 : Pos} {g : Env' → AH → Res (List D)} (hN : X.N.Nodup) (ha : DA X Γ W [a, b] g) (hc : X.calm = true := by rfl) (hi : X.N[i]? = some x := by rfl) (hj : X.N[j]? = some y := by rfl) (hij : i ≠ j := by decide) (hx : X.env.scope.names.lookup x = some .local := by rfl) (hy : X.env.scope.names.lookup y = some .local := by rfl)
    (hw : swappedStores [.Tuple [.Name x px, .Name y py] kt pt] (.Tuple [a, b] k2 pt2) X.env = pure (some [x, y]) := by rfl) (hs : swapsWithSole [.Tuple [.Name x px, .Name y py] kt pt] (.Tuple [a, b] k2 pt2) pos.line X.env = pure false := by rfl) :
    DS X Γ W (.Assign [.Tuple [.Name x px, .Name y py] kt pt] (.Tuple [a, b] k2 pt2) pos) (svPar i j g) := ds_par hc hN hi hj hij hx hy ha hw hs
theorem sfor {tg iter : Expr} {body : List Stmt} {t : Tg} {fi : Env' → AH → Res (List D)} {fb : Sv} (hp : PassesOwn (model X.prog X.w) X.A X.env X.xe) (pi : DI X Γ W tg iter fi) (pg : DG X Γ tg t) (pb : DSs X Γ W body fb) (hc : X.calm = true := by rfl) (hs : ∀ x, foldedSetIterable iter X.env x = pure x := by intro _; rfl) : DS X Γ W (.For tg iter body [] pos) (svFor t fi fb) := ds_for hp hc pi pg pb hs
theorem sput {k : Nat} {o i value : Expr} {pos' : Pos} {fv fo fi : Ev} (hr : Room k X.A) (pv : DE X Γ W value fv) (po : DE X Γ W o fo) (pi : DE X Γ W i fi) (hs : swapsWith value (some (.Subscript o i pos')) pos.line X.env = pure false := by rfl) : DS X Γ W (.Assign [.Subscript o i pos'] value pos) (svPut fv fo fi) := ds_put hr.units pv po pi hs
theorem irange1 {tg a : Expr} {p : Pos} {g : Env' → AH → Res (List D)} (hm : X.mg "range" = none) (pa : DA X Γ W [a] g) (hg : Gl X "range" := by rfl) (hs : starEach [a] X.env = [(false, eval a X.env)] := by rfl) : DI X Γ W tg (.Call (.Name "range" p) [a] [] pos) (ivRange1 g) := di_range1 hg hm pa hs
theorem irange2 {tg a b : Expr} {p : Pos} {g : Env' → AH → Res (List D)} (hm : X.mg "range" = none) (pa : DA X Γ W [a, b] g) (hg : Gl X "range" := by rfl) (hs : starEach [a, b] X.env = [(false, eval a X.env), (false, eval b X.env)] := by rfl) (hs2 : starEach [b] X.env = [(false, eval b X.env)] := by rfl) : DI X Γ W tg (.Call (.Name "range" p) [a, b] [] pos) (ivRange2 g) := di_range2 hg hm pa hs hs2
theorem ienum {e : Expr} {g : Env' → AH → Res (List D)} {p tpos : Pos} {elts : List Expr} {kk : Nat} (hm : X.mg "enumerate" = none) (ha : DA X Γ W [e] g) (hg : Gl X "enumerate" := by rfl) (hs : starEach [e] X.env = [(false, eval e X.env)] := by rfl) : DI X Γ W (.Tuple elts kk tpos) (.Call (.Name "enumerate" p) [e] [] pos) (ivEnum g) := di_enum hg hm ha hs
theorem izip {e e2 : Expr} {g : Env' → AH → Res (List D)} {p tpos : Pos} {elts : List Expr} {kk : Nat} (hm : X.mg "zip" = none) (ha : DA X Γ W [e, e2] g) (hg : Gl X "zip" := by rfl) (hs : starEach [e, e2] X.env = (false, eval e X.env) :: starEach [e2] X.env := by rfl) (hpl : (backTo pos (starEach [e2] X.env)).any (·.1) = false := by rfl) : DI X Γ W (.Tuple elts kk tpos) (.Call (.Name "zip" p) [e, e2] [] pos) (ivZip g) := di_zip hg hm ha hs hpl
theorem iitems {iter : Expr} {f : Ev} {elts : List Expr} {kk : Nat} {tpos apos cpos : Pos} (p : DE X Γ W iter f) (hbase : attributeBase iter "items" X.env (eval iter X.env) = eval iter X.env := by rfl) (hline : (apos.endLine == cpos.line) = true := by rfl) : DI X Γ W (.Tuple elts kk tpos) (.Call (.Attribute iter "items" apos) [] [] cpos) (ivItems f) := di_items p hbase hline
/-- built-in functions, classes -/
theorem xbf {x : Str} {id : String} {e : Expr} {es : List Expr} {p : Pos} {φ : List D → AH → Option (D × AH)} {g : Env' → AH → Res (List D)} (b : BfD X Γ (.builtin id) φ) (hv : bootBuiltins x = some (.builtin id)) (hm : X.mg x = none) (ha : DA X Γ W (e :: es) g) (hg : Gl X x := by rfl) (hn : x ≠ "__name__" := by decide) (hdb : (x == ("__debug__" : Str)) = false := by decide)
    (he : starEach (e :: es) X.env = (false, eval e X.env) :: starEach es X.env := by rfl) (hpl : (backTo pos (starEach es X.env)).any (·.1) = false := by rfl) : DE X Γ W (.Call (.Name x p) (e :: es) [] pos) (evBf φ g) := de_bf b hg hm hv ha hn hdb he hpl
theorem xty {x : Str} {T : String} {e : Expr} {es : List Expr} {p : Pos} {φ : List D → AH → Option (D × AH)} {g : Env' → AH → Res (List D)} (b : BfD X Γ (.type T) φ) (hv : bootBuiltins x = some (.type T)) (hm : X.mg x = none) (ha : DA X Γ W (e :: es) g) (hg : Gl X x := by rfl) (hn : x ≠ "__name__" := by decide) (hdb : (x == ("__debug__" : Str)) = false := by decide)
    (he : starEach (e :: es) X.env = (false, eval e X.env) :: starEach es X.env := by rfl) (hpl : (backTo pos (starEach es X.env)).any (·.1) = false := by rfl) : DE X Γ W (.Call (.Name x p) (e :: es) [] pos) (evBf φ g) := de_ty b hg hm hv ha hn hdb he hpl
theorem xisiT {e : Expr} {p q : Pos} {x : Str} {f : Ev} {isa : Tag → Option Bool} {T : String} (ok : IsaOk X Γ (.type T) isa) (hm : X.mg "isinstance" = none) (hmx : X.mg x = none) (he : DE X Γ W e f) (hv : bootBuiltins x = some (.type T)) (hg : Gl X "isinstance" := by rfl) (hgx : Gl X x := by rfl) (hn : x ≠ "__name__" := by decide) (hdb : (x == ("__debug__" : Str)) = false := by decide)
    (hs1 : starEach [e, .Name x q] X.env = (false, eval e X.env) :: starEach [.Name x q] X.env := by rfl) (hs2 : starEach [.Name x q] X.env = (false, eval (.Name x q) X.env) :: starEach [] X.env := by rfl) (hpl : (backTo pos (starEach [.Name x q] X.env)).any (·.1) = false := by rfl) :
    DE X Γ W (.Call (.Name "isinstance" p) [e, .Name x q] [] pos) (evIsi isa f) := de_isi (cv := .ty T) ok (.ty T) hg hm he (pe_bltn (v := .ty T) hgx hmx hv rfl hn hdb) hs1 hs2 hpl
theorem xisiO {e : Expr} {p q : Pos} {x : Str} {f : Ev} {isa : Tag → Option Bool} {a : Addr} (ok : IsaOk X Γ (.ref a) isa) (hm : X.mg "isinstance" = none) (hmx : X.mg x = some (.ref a)) (he : DE X Γ W e f) (hg : Gl X "isinstance" := by rfl) (hgx : Gl X x := by rfl) (hdb : (x == ("__debug__" : Str)) = false := by decide)
    (hs1 : starEach [e, .Name x q] X.env = (false, eval e X.env) :: starEach [.Name x q] X.env := by rfl) (hs2 : starEach [.Name x q] X.env = (false, eval (.Name x q) X.env) :: starEach [] X.env := by rfl) (hpl : (backTo pos (starEach [.Name x q] X.env)).any (·.1) = false := by rfl) :
    DE X Γ W (.Call (.Name "isinstance" p) [e, .Name x q] [] pos) (evIsi isa f) := de_isi (cv := .ref a) ok (.own a) hg hm he (pe_glob (v := .ref a) hgx hmx rfl hdb) hs1 hs2 hpl
end
end MP
set_option Elab.async false
set_option linter.all false
set_option maxRecDepth 100000
set_option maxHeartbeats 400000
/-! MQF: calls in short forms. -/
namespace MP
open PySem PySem.Spec PyProof.Rows L2
/-- a row of values is so long -/
def LenA (g : Env' → AH → Res (List D)) (n : Nat) : Prop := ∀ E h ds h', g E h = some (.ok ds, h') → ds.length = n
theorem la_nil : LenA avNil 0 := fun E h ds h' e => by cases e; rfl
theorem la_cons {f : Ev} {g : Env' → AH → Res (List D)} {n : Nat} (l : LenA g n) : LenA (avCons f g) (n + 1) := fun E h ds h' e => by
  unfold avCons at e
  cases e1 : f E h with
  | none => rw [e1] at e; cases e
  | some r =>
    obtain ⟨o, h1⟩ := r
    rw [e1] at e
    cases o with
    | exc c fs => cases e
    | ok d =>
      simp only [bindR] at e
      cases e2 : g E h1 with
      | none => rw [e2] at e; cases e
      | some r2 =>
        obtain ⟨o2, h2⟩ := r2
        rw [e2] at e
        cases o2 with
        | exc c fs => cases e
        | ok ds2 =>
          cases e
          simp [l E h1 ds2 _ e2]
/-- an own function with its promise: f its address, dvs the defaults that are taken -/
def FnR (P : Program) (w : World) (K : PySem.W.Frag) (mg : Str → Option Value) (base : Heap) (Γ : Gm) (f : Addr) (ps : List Str) (k : Nat) (dvs : List V) (φ : Fn) : Prop :=
  ∃ fd dus, PySem.W.keepIn K (.ref f) = true ∧ Vals dvs dus ∧ Binds K fd ps dus ∧ FnOk P w K mg base (L2.CX P w) k f fd ps (spP w K Γ ps.length φ)
section
variable {X : Cx} {Γ : Gm} {W : WX} {pos : Pos}
theorem xcall {x : Str} {p : Pos} {e : Expr} {es : List Expr} {φ : Fn} {ps : List Str} {g : Env' → AH → Res (List D)} {k : Nat} {f : Addr} (tk : Takes X W) (R : FnR X.prog X.w X.K X.mg X.base Γ f ps k [] φ) (hr : Room k X.A) (hm : X.mg x = some (.ref f)) (ha : DA X Γ W (e :: es) g) (hg : Gl X x := by rfl)
    (na : (e :: es).length + 0 = ps.length := by rfl) (hlen : LenA g (e :: es).length := by repeat (first | exact la_nil | refine la_cons ?_)) (hdb : (x == ("__debug__" : Str)) = false := by decide) (he : starEach (e :: es) X.env = (false, eval e X.env) :: starEach es X.env := by rfl) (hpl : (backTo pos (starEach es X.env)).any (·.1) = false := by rfl) :
    DE X Γ W (.Call (.Name x p) (e :: es) [] pos) (evCall φ [] g) := by
  obtain ⟨fd, dus, hk, hdv, hb, F⟩ := R
  exact de_call tk F hr hg hm hk hb hdv (fun _ _ => .nil) na ha hlen hdb he hpl
/-- .. with one default that is None -/
theorem xcallN {x : Str} {p : Pos} {e : Expr} {es : List Expr} {φ : Fn} {ps : List Str} {g : Env' → AH → Res (List D)} {k : Nat} {f : Addr} (tk : Takes X W) (R : FnR X.prog X.w X.K X.mg X.base Γ f ps k [.non] φ) (hr : Room k X.A) (hm : X.mg x = some (.ref f)) (ha : DA X Γ W (e :: es) g) (hg : Gl X x := by rfl)
    (na : (e :: es).length + 1 = ps.length := by rfl) (hlen : LenA g (e :: es).length := by repeat (first | exact la_nil | refine la_cons ?_)) (hdb : (x == ("__debug__" : Str)) = false := by decide) (he : starEach (e :: es) X.env = (false, eval e X.env) :: starEach es X.env := by rfl) (hpl : (backTo pos (starEach es X.env)).any (·.1) = false := by rfl) :
    DE X Γ W (.Call (.Name x p) (e :: es) [] pos) (evCall φ [.non] g) := by
  obtain ⟨fd, dus, hk, hdv, hb, F⟩ := R
  exact de_call tk F hr hg hm hk hb hdv (fun _ _ => .cons .non .nil) na ha hlen hdb he hpl
/-- no argument -/
theorem xcall0 {x : Str} {p : Pos} {φ : Fn} {k : Nat} {f : Addr} (tk : Takes X W) (R : FnR X.prog X.w X.K X.mg X.base Γ f [] k [] φ) (hr : Room k X.A) (hm : X.mg x = some (.ref f)) (hg : Gl X x := by rfl) (hdb : (x == ("__debug__" : Str)) = false := by decide) :
    DE X Γ W (.Call (.Name x p) [] [] pos) (evCall φ [] avNil) := by
  obtain ⟨fd, dus, hk, hdv, hb, F⟩ := R
  refine ⟨fun pins s σ H Q I ⟨E, h, n, ρ, er, hr0, q⟩ => ?_⟩
  refine wpAny_Call_Name_kw (ld_glob I hg hm ?_ hdb)
  have q1 : PostE X Γ n ρ H (fun c d H' => W c d σ H') (callP φ [] [] h) Q := q
  exact PySem.W.callWith_K0 (first := []) I.kIn hk (run_fnSD (E := WE W) (us := []) (vs := []) F hr hb hdv (passAt tk σ) I .nil (callP_ok (dfl := []) (ds := []) (dvs := []) (vs := []) rfl (fun _ _ => .nil) hr0 .nil q1))
/-! ### keywords -/
def DK (X : Cx) (Γ : Gm) (W : WX) (kws : List Keyword) (g : Env' → AH → Res (List D)) : Prop := PK X kws (tDA X Γ W g)
theorem PK.imp {kws : List Keyword} {t t' : TA} (p : PK X kws t) (h : ∀ σ H Q, t' σ H Q → t σ H Q) : PK X kws t' := ⟨fun pos pins s σ H Q I q => p.run pos pins s σ H Q I (h σ H Q q)⟩
theorem dk_nil : DK X Γ W [] avNil := PK.imp pk_nil fun σ H Q ⟨E, h0, n, ρ, er, hr, q⟩ => q.okR hr .nil
theorem dk_cons {nm : Option Str} {e : Expr} {kpos : Pos} {kws : List Keyword} {f : Ev} {g : Env' → AH → Res (List D)} (p : DE X Γ W e f) (q : DK X Γ W kws g) : DK X Γ W (⟨nm, e, kpos⟩ :: kws) (avCons f g) :=
  PK.imp (pk_cons p q) fun σ H Q ⟨E, h0, n, ρ, er, hr, q⟩ => ⟨E, h0, n, ρ, er, hr, (Post.bind (R := RelT X.w X.K Γ) q).imp fun x H1 ⟨a, h1, n1, ρ1, x1, hr1, r1, q1⟩ =>
    ⟨E, h1, n1, ρ1, er.mono x1, hr1, (Post.bind (R := RelTs X.w X.K Γ) q1).imp fun xs H2 ⟨as, h2, n2, ρ2, x2, hr2, r2, q2⟩ => q2.okR hr2 (.cons (r1.mono x2) r2)⟩⟩
/-- an own function called with keywords, which stand behind the positional values -/
def FnRK (P : Program) (w : World) (K : PySem.W.Frag) (mg : Str → Option Value) (base : Heap) (Γ : Gm) (f : Addr) (ps : List Str) (n : Nat) (ks : List Str) (k : Nat) (φ : Fn) : Prop :=
  ∃ fd, PySem.W.keepIn K (.ref f) = true ∧ KBn K fd ps n ks (fun us ws => us ++ ws) (fun vs zs => vs ++ zs) ∧ FnOk P w K mg base (L2.CX P w) k f fd ps (spP w K Γ ps.length φ)
def evCallK (φ : Fn) (g gk : Env' → AH → Res (List D)) : Ev := fun E h => bindR (g E h) fun ds h1 => bindR (gk E h1) fun ks h2 => callP φ [] (ds ++ ks) h2
theorem xcallK {x : Str} {p : Pos} {e : Expr} {es : List Expr} {kws : List Keyword} {φ : Fn} {ps ks : List Str} {g gk : Env' → AH → Res (List D)} {n k : Nat} {f : Addr} (tk : Takes X W) (R : FnRK X.prog X.w X.K X.mg X.base Γ f ps n ks k φ) (hr : Room k X.A) (hm : X.mg x = some (.ref f)) (ha : DA X Γ W (e :: es) g) (hkw : DK X Γ W kws gk) (hg : Gl X x := by rfl)
    (na : n + ks.length = ps.length := by rfl) (hl1 : LenA g n := by repeat (first | exact la_nil | refine la_cons ?_)) (hl2 : LenA gk ks.length := by repeat (first | exact la_nil | refine la_cons ?_))
    (hall : (backToKw pos (keywordEach kws X.env)).all (·.1.isSome) = true := by rfl) (hks : (backToKw pos (keywordEach kws X.env)).filterMap (·.1) = ks := by rfl)
    (hdb : (x == ("__debug__" : Str)) = false := by decide) (he : starEach (e :: es) X.env = (false, eval e X.env) :: starEach es X.env := by rfl)
    (hpl : ((backTo pos (starEach (e :: es) X.env)).any (·.1) || (backToKw pos (keywordEach kws X.env)).any (·.1.isNone)) = false := by rfl) :
    DE X Γ W (.Call (.Name x p) (e :: es) kws pos) (evCallK φ g gk) := by
  obtain ⟨fd, hk, hb, F⟩ := R
  refine ⟨fun pins s σ H Q I ⟨E, h, n0, ρ, er, hr0, q⟩ => ?_⟩
  refine wpAny_Call_Name_kw (ld_glob I hg hm ?_ hdb)
  have rd1 := ha.run pos pins s σ H _ I ⟨E, h, n0, ρ, er, hr0, (Post.bind (R := RelTs X.w X.K Γ) q).imp' fun vs ds h' n3 ρ3 H3 eq x3 hr3 rd3 z => (⟨hl1 _ _ _ _ eq ▸ rd3.length, z⟩ : n = vs.length ∧ _)⟩
  refine PySem.W.callWith_KW (h₀ := X.base) I.ok.mod.kin hk hall (thn rd1 fun us s1 ⟨vs, H1, I1, r, l1, ds, h1, n1, ρ1, x1, hr1, rd, q1⟩ => ?_) hpl he
  have rd2 := hkw.run pos pins s1 σ H1 _ I1 ⟨E, h1, n1, ρ1, er.mono x1, hr1, (Post.bind (R := RelTs X.w X.K Γ) q1).imp' fun vs ds h' n3 ρ3 H3 eq x3 hr3 rd3 z => (⟨hl2 _ _ _ _ eq ▸ rd3.length, z⟩ : ks.length = vs.length ∧ _)⟩
  refine thn rd2 fun ws s2 ⟨zs, H2, I2, rz, l2, ds2, h2, n2, ρ2, x2, hr2, rd2, q2⟩ => ⟨I2.kIn, ?_⟩
  rw [hks]
  have sp : spP X.w X.K Γ ps.length φ (vs ++ zs) H2 Q (WE W σ) := by
    have z := callP_ok (X := X) (Γ := Γ) (W := W) (σ := σ) (φ := φ) (ar := ps.length) (dfl := []) (ds := ds ++ ds2) (dvs := []) (vs := vs ++ zs) (Q := Q) (by rw [List.append_nil, List.length_append, ← l1, ← l2]; exact na) (fun _ _ => .nil) hr2 ((rd.mono x2).append rd2) q2
    rw [List.append_nil] at z
    exact z
  have r2 := hb.rel r rz
  refine wpAny_call (codeAny_mono (F.run X.A X.stack s2 H2 ⟨us, ks.zip ws⟩ (us ++ ws) (vs ++ zs) Q (WE W σ) hr I2.env0 (hb.to s2 us ws I2.kIn (r.length.symm.trans l1.symm) (rz.length.symm.trans l2.symm)) r2 sp) fun r s' hq => ?_)
  cases r with
  | error e => exact passAt tk σ pins H2 s2 e s' I2 hq
  | ok fl =>
    cases fl with
    | ret u => exact I2.after hq
    | next => exact False.elim hq
    | brk => exact False.elim hq
    | cont => exact False.elim hq
/-! ### methods, constructors, attributes -/
/-- a method, told by its class -/
def MtR (P : Program) (w : World) (K : PySem.W.Frag) (mg : Str → Option Value) (base : Heap) (Γ : Gm) (c m : Str) (ps : List Str) (k : Nat) (φ : Fn) : Prop := Cls K (Γ c) ∧ ∃ f fd, Meth K (Γ c) m f ∧ Binds K fd ps [] ∧ FnOk P w K mg base (L2.CX P w) k f fd ps (spP w K Γ ps.length φ)
theorem MtR.mok {c m : Str} {ps : List Str} {k k' na : Nat} {φ : Fn} (r : MtR X.prog X.w X.K X.mg X.base Γ c m ps k φ) (hk : k ≤ k') (hn : na + 1 + 0 = ps.length := by rfl) : MOk X Γ k' m na [] c φ := by
  obtain ⟨cl, f, fd, me, b, F⟩ := r
  exact ⟨cl, f, fd, ps, [], me, F.mono hk, b, .nil, hn⟩
/-- by classes -/
def tabF (l : List (Str × Fn)) : Str → Option Fn := fun c => l.lookup c
theorem tab1 {k : Nat} {m : Str} {na : Nat} {c : Str} {φ : Fn} (r : MOk X Γ k m na [] c φ) : ∀ c' φ', tabF [(c, φ)] c' = some φ' → MOk X Γ k m na [] c' φ' := fun c' φ' e => by
  unfold tabF at e
  simp only [List.lookup] at e
  cases q : (c' == c) with
  | true => rw [q] at e; cases e; rw [eq_of_beq q]; exact r
  | false => rw [q] at e; cases e
theorem tabC {k : Nat} {m : Str} {na : Nat} {c : Str} {φ : Fn} {l : List (Str × Fn)} (r : MOk X Γ k m na [] c φ) (t : ∀ c' φ', tabF l c' = some φ' → MOk X Γ k m na [] c' φ') : ∀ c' φ', tabF ((c, φ) :: l) c' = some φ' → MOk X Γ k m na [] c' φ' := fun c' φ' e => by
  unfold tabF at e
  simp only [List.lookup] at e
  cases q : (c' == c) with
  | true => rw [q] at e; cases e; rw [eq_of_beq q]; exact r
  | false => rw [q] at e; exact t c' φ' e
theorem xmeth {o e : Expr} {es : List Expr} {m : Str} {apos : Pos} {fo : Ev} {g : Env' → AH → Res (List D)} {tab : Str → Option Fn} {k : Nat} {pl : Sem Bool} (tk : Takes X W) (hr : Room k X.A) (ht : ∀ c φ, tab c = some φ → MOk X Γ k m (e :: es).length [] c φ) (ho : DE X Γ W o fo) (ha : DA X Γ W (e :: es) g)
    (hlen : LenA g (e :: es).length := by repeat (first | exact la_nil | refine la_cons ?_)) (hst : starEach (e :: es) X.env = (false, eval e X.env) :: starEach es X.env := by rfl) (hpl : (backTo pos (starEach es X.env)).any (·.1) = false := by rfl)
    (hev : eval (.Call (.Attribute o m apos) (e :: es) [] pos) X.env = (do
      let ov ← eval o X.env
      standAt apos.atName
      let (f, first) ← holding [ov] (getMethod ov m pl)
      callWith pos f first (backTo pos (starEach (e :: es) X.env)) (backToKw pos (keywordEach [] X.env))) := by rfl) : DE X Γ W (.Call (.Attribute o m apos) (e :: es) [] pos) (evMeth m tab [] fo g) := de_meth tk hr ht (fun _ _ => .nil) ho ha hlen hst hpl hev
theorem xmeth0 {o : Expr} {m : Str} {apos : Pos} {fo : Ev} {tab : Str → Option Fn} {k : Nat} {pl : Sem Bool} (tk : Takes X W) (hr : Room k X.A) (ht : ∀ c φ, tab c = some φ → MOk X Γ k m 0 [] c φ) (ho : DE X Γ W o fo)
    (hev : eval (.Call (.Attribute o m apos) [] [] pos) X.env = (do
      let ov ← eval o X.env
      standAt apos.atName
      let (f, first) ← holding [ov] (getMethod ov m pl)
      callWith pos f first (backTo pos (starEach [] X.env)) (backToKw pos (keywordEach [] X.env))) := by rfl) : DE X Γ W (.Call (.Attribute o m apos) [] [] pos) (evMeth m tab [] fo avNil) := de_meth0 tk hr ht (fun _ _ => .nil) ho hev
/-- built-in methods -/
theorem xmt {T : TyN} {id : String} {name : Str} {o e : Expr} {es : List Expr} {apos cpos : Pos} {φ : D → List D → AH → Option (D × AH)} {fo : Ev} {ga : Env' → AH → Res (List D)} (pa : PlainAttrs T.nm) (slot : Slot T.nm name id) (hty : typeOf (.builtin id) = pure (.type "method_descriptor")) (hm : MtD X Γ id φ) (ho : DE X Γ W o fo) (ha : DA X Γ W (e :: es) ga)
    (hbase : attributeBase o name X.env (eval o X.env) = eval o X.env := by rfl) (hfew : ((backTo cpos (starEach (e :: es) X.env)).all (fun x => !x.1) && (backToKw cpos (keywordEach [] X.env)).all (fun x => x.1.isSome) && decide ((e :: es).length + ([] : List Keyword).length + (if ([] : List Keyword).isEmpty then 0 else 1) < 30)) = true := by rfl)
    (hline : (apos.endLine == cpos.line) = true := by rfl) (hs : starEach (e :: es) X.env = (false, eval e X.env) :: starEach es X.env := by rfl) (hplain : (backTo cpos (starEach es X.env)).any (·.1) = false := by rfl) : DE X Γ W (.Call (.Attribute o name apos) (e :: es) [] cpos) (evMt T φ fo ga) := de_mt pa slot hty hm ho ha hbase hfew hline hs hplain
theorem xmt0 {T : TyN} {id : String} {name : Str} {o : Expr} {apos cpos : Pos} {φ : D → List D → AH → Option (D × AH)} {fo : Ev} (pa : PlainAttrs T.nm) (slot : Slot T.nm name id) (hty : typeOf (.builtin id) = pure (.type "method_descriptor")) (hm : MtD X Γ id φ) (ho : DE X Γ W o fo) (hbase : attributeBase o name X.env (eval o X.env) = eval o X.env := by rfl) (hline : (apos.endLine == cpos.line) = true := by rfl) :
    DE X Γ W (.Call (.Attribute o name apos) [] [] cpos) (evMt T φ fo avNil) := de_mt0 pa slot hty hm ho hbase hline
theorem xfld {e : Expr} {f : Str} {fe : Ev} (hc : ∀ c, Γ.ok c → Cls X.K (Γ c) ∧ NoAttr X.K (Γ c) f) (he : DE X Γ W e fe) (hb : attributeBase e f X.env (eval e X.env) = eval e X.env := by rfl) : DE X Γ W (.Attribute e f pos) (evFld f fe) := de_fld hc he hb
theorem sfld {o value : Expr} {f : Str} {pos' : Pos} {fv fo : Ev} (hc : ∀ c, Γ.ok c → Cls X.K (Γ c) ∧ NoAttr X.K (Γ c) f) (pv : DE X Γ W value fv) (po : DE X Γ W o fo) (hs : swapsWith value (some (.Attribute o f pos')) pos.line X.env = pure false := by rfl) : DS X Γ W (.Assign [.Attribute o f pos'] value pos) (svFld f fv fo) := ds_fld hc pv po hs
/-- a property -/
def PrR (P : Program) (w : World) (K : PySem.W.Frag) (mg : Str → Option Value) (base : Heap) (Γ : Gm) (c f : Str) (k : Nat) (φ : Fn) : Prop := Cls K (Γ c) ∧ ∃ p g fd, PropOf K (Γ c) f p g ∧ Binds K fd ["self"] [] ∧ FnOk P w K mg base (L2.CX P w) k g fd ["self"] (spP w K Γ 1 φ)
theorem xprop {e : Expr} {f c : Str} {fe : Ev} {φ : Fn} {k : Nat} (r : PrR X.prog X.w X.K X.mg X.base Γ c f k φ) (hr : Room (k + 1) X.A) (he : DE X Γ W e fe) (hab : attributeBase e f X.env (eval e X.env) = eval e X.env := by rfl) : DE X Γ W (.Attribute e f pos) (evProp c φ fe) := by
  obtain ⟨cl, p, g, fd, hp, hb, F⟩ := r
  exact de_prop he cl hp F hr hb hab
/-- a constructor -/
def MkR (P : Program) (w : World) (K : PySem.W.Frag) (mg : Str → Option Value) (base : Heap) (Γ : Gm) (c : Str) (ps : List Str) (k : Nat) (φ : FnI) : Prop := Γ.ok c ∧ ∃ f fd, Mk K (Γ c) f ∧ Binds K fd ps [] ∧ FnOk P w K mg base (L2.CX P w) k f fd ps (spI w K Γ ps.length c φ)
theorem xmake {x c : Str} {p : Pos} {e : Expr} {es : List Expr} {φ : FnI} {ps : List Str} {g : Env' → AH → Res (List D)} {k : Nat} (tk : Takes X W) (R : MkR X.prog X.w X.K X.mg X.base Γ c ps k φ) (hr : Room (k + 1) X.A) (hm : X.mg x = some (.ref (Γ c))) (ha : DA X Γ W (e :: es) g) (hg : Gl X x := by rfl)
    (na : (e :: es).length + 0 + 1 = ps.length := by rfl) (hlen : LenA g (e :: es).length := by repeat (first | exact la_nil | refine la_cons ?_)) (hdb : (x == ("__debug__" : Str)) = false := by decide) (he : starEach (e :: es) X.env = (false, eval e X.env) :: starEach es X.env := by rfl) (hpl : (backTo pos (starEach es X.env)).any (·.1) = false := by rfl) :
    DE X Γ W (.Call (.Name x p) (e :: es) [] pos) (evMake c φ [] g) := by
  obtain ⟨kc, f, fd, M, hb, F⟩ := R
  exact de_make kc tk M F hr hg hm hb .nil (fun _ _ => .nil) na ha hlen hdb he hpl
/-- len, of own objects too -/
theorem lenT {tab : Str → Option Fn} {k : Nat} (hr : Room (k + 1) X.A) (ht : ∀ c φ, tab c = some φ → MtR X.prog X.w X.K X.mg X.base Γ c "__len__" ["self"] k φ) : BfD X Γ (.builtin "len") (lenA tab) := bf_lenA hr fun c φ e => by
  obtain ⟨_, f, fd, me, b, F⟩ := ht c φ e
  exact ⟨f, fd, me, F, b⟩
theorem tabL1 {P : Program} {w : World} {K : PySem.W.Frag} {mg : Str → Option Value} {base : Heap} {c m : Str} {ps : List Str} {k : Nat} {φ : Fn} (r : MtR P w K mg base Γ c m ps k φ) : ∀ c' φ', tabF [(c, φ)] c' = some φ' → MtR P w K mg base Γ c' m ps k φ' := fun c' φ' e => by
  unfold tabF at e
  simp only [List.lookup] at e
  cases q : (c' == c) with
  | true => rw [q] at e; cases e; rw [eq_of_beq q]; exact r
  | false => rw [q] at e; cases e
end
end MP
set_option Elab.async false
set_option linter.all false
set_option maxRecDepth 100000
set_option maxHeartbeats 400000
/-! MQG: freezing within expressions, stars of any sequence, list + list that may be changed. -/
namespace MP
open PySem PySem.Spec PyProof.Rows L2
section
variable {X : Cx} {Γ : Gm} {W : WX} {pos : Pos} {n : Nat} {ρ : Rho} {H : Hp} {h : AH}
/-- the value is given away -/
def frzE (d : D) (h : AH) : Res D := match frzR d h with
  | some (d', h') => okR d' h'
  | none => none
def evF (f : Ev) : Ev := fun E h => bindR (f E h) frzE
theorem xfrz {e : Expr} {f : Ev} (p : DE X Γ W e f) : DE X Γ W e (evF f) := ⟨fun pins s σ H Q I ⟨E, h, n, ρ, er, hr, q⟩ => by
  refine thn (p.run pins s σ H _ I ⟨E, h, n, ρ, er, hr, Post.bind (R := RelT X.w X.K Γ) q⟩) fun u s1 ⟨x, H1, I1, rx, d, h1, n1, ρ1, x1, hr1, rd, q1⟩ => ?_
  unfold frzE at q1
  cases e1 : frzR d h1 with
  | none => rw [e1] at q1; exact q1.elim
  | some p =>
    obtain ⟨d', h2⟩ := p
    rw [e1] at q1
    obtain ⟨ρ2, x2, hr2, r2⟩ := frzR_ok hr1 rd e1
    exact ⟨x, H1, I1, rx, q1 x n1 ρ2 H1 x2 hr2 r2.up⟩⟩
/-- *e, e any tuple or list -/
def starV (d : D) (h : AH) : Res (List D) := match vw h d with
  | .tup ds => okR ds h
  | .lst ds => okR ds h
  | _ => none
def avStarV (f : Ev) (g : Env' → AH → Res (List D)) : Env' → AH → Res (List D) := fun E h => bindR (f E h) fun d h1 => bindR (starV d h1) fun xs h2 => bindR (g E h2) fun ds h3 => okR (xs ++ ds) h3
theorem starV_seq {d : D} {ds : List D} {v : V} (hr : HR X Γ n ρ H h) (r : RD X Γ n ρ H d v) (e : starV d h = some (.ok ds, h)) : ∃ a vs, v = V.ref a ∧ (SqT X.K H a vs ∨ SqL X.K H a vs) ∧ RDs X Γ n ρ H ds vs := by
  unfold starV at e
  cases q : vw h d with
  | tup xs =>
    rw [q] at e; cases e
    obtain ⟨a, vs, h1, h2, h3⟩ := RelD.tup_seq (vw_tup hr r q)
    exact ⟨a, vs, h1, .inl h2, h3.up⟩
  | lst xs =>
    rw [q] at e; cases e
    obtain ⟨a, vs, h1, h2, h3⟩ := vw_seq hr r q
    exact ⟨a, vs, h1, .inr h2, h3.up⟩
  | _ => rw [q] at e; cases e
theorem starV_h {d : D} {r : Out (List D)} {h' : AH} (e : starV d h = some (r, h')) : ∃ ds, r = .ok ds ∧ h' = h := by
  unfold starV at e
  cases q : vw h d with
  | tup xs => rw [q] at e; cases e; exact ⟨_, rfl, rfl⟩
  | lst xs => rw [q] at e; cases e; exact ⟨_, rfl, rfl⟩
  | _ => rw [q] at e; cases e
theorem astar {e : Expr} {p : Pos} {es : List Expr} {f : Ev} {g : Env' → AH → Res (List D)} (pe : DE X Γ W e f) (q : DA X Γ W es g) (hs : starEach (.Starred e p :: es) X.env = (true, eval e X.env) :: starEach es X.env := by rfl) :
    DA X Γ W (.Starred e p :: es) (avStarV f g) :=
  PA.imp (StX.pa_star pe q hs) fun σ H Q ⟨E, h0, n, ρ, er, hr, q⟩ => ⟨E, h0, n, ρ, er, hr, (Post.bind (R := RelT X.w X.K Γ) q).imp fun x H1 ⟨a, h1, n1, ρ1, x1, hr1, r1, q1⟩ => by
    cases e1 : starV a h1 with
    | none => rw [e1] at q1; exact q1.elim
    | some r =>
      obtain ⟨o, h'⟩ := r
      obtain ⟨ds, rfl, rfl⟩ := starV_h e1
      rw [e1] at q1
      obtain ⟨b, vs, h1', h2', h3'⟩ := starV_seq hr1 r1 e1
      have q1 : PostA X Γ n1 ρ1 H1 (fun c d H' => W c d σ H') (bindR (g E h') fun zs h3 => okR (ds ++ zs) h3) Q := q1
      exact ⟨b, vs, h1', h2', E, h', n1, ρ1, er.mono x1, hr1, (Post.bind (R := RelTs X.w X.K Γ) q1).imp fun xs H2 ⟨as, h2, n2, ρ2, x2, hr2, r2, q2⟩ => q2.okR hr2 ((h3'.mono x2).append r2)⟩⟩
/-! ### list + list, a list that may be changed -/
theorem postLstM {ds : List D} {vs : List V} {Q : VK} {p : Addr} (hr : HR X Γ n ρ H h) (r : RDs0 X Γ n ρ H ds vs) (hp : H p = none) (q : PostO X Γ n ρ H (some (.ref h.length, h ++ [.lst ds])) Q) : Q (.ref p) (upd H p (.lst vs)) := by
  have x2 := Ext.track (n := n) (ρ := ρ) (o := .lst vs) hp
  exact q _ (n + 1) (put ρ n p) _ x2 (hr.track hp ⟨put_nfz, vs, upd_same, r.monoP x2⟩) (ref_new hr)
def addM : D → D → AH → Option (D × AH) := fun a b h => match vwM h a, vwM h b with
  | some xs, some ys => if xs.length + ys.length ≤ sizeLine then some (.ref h.length, h ++ [.lst (xs ++ ys)]) else none
  | _, _ => none
theorem addM_ok : OpR X (binaryOp .Add) (rD X Γ addM) := by
  intro pins s σ H x y v u Q I rx ry ⟨h, n, ρ, a, b, hr, ra, rb, q⟩
  unfold addM at q
  cases e1 : vwM h a with
  | none => rw [e1] at q; exact q.elim
  | some xs =>
    cases e2 : vwM h b with
    | none => rw [e1, e2] at q; exact q.elim
    | some ys =>
      rw [e1, e2] at q
      simp only at q
      by_cases hz : xs.length + ys.length ≤ sizeLine
      · rw [if_pos hz] at q
        obtain ⟨l, vs, rfl, h1, r1⟩ := vwM_at hr ra e1
        obtain ⟨m, us, rfl, h2, r2⟩ := vwM_at hr rb e2
        exact op_cat pins s σ H _ _ v u Q I rx ry ⟨l, m, vs, us, rfl, rfl, h1, h2, by rw [← r1.length, ← r2.length]; exact hz, fun p hp => postLstM hr (r1.append r2) hp q⟩
      · rw [if_neg hz] at q; exact q.elim
theorem xaddM {a b : Expr} {fa fb : Ev} (ha : DE X Γ W a fa) (hb : DE X Γ W b fb) : DE X Γ W (.BinOp a .Add b pos) (evBin addM fa fb) := de_op addM_ok ha hb
end
end MP
set_option Elab.async false
set_option linter.all false
set_option maxRecDepth 100000
set_option maxHeartbeats 400000
/-! MQH: list(range(..)), tuple(range(..)). -/
namespace MP
open PySem PySem.Spec PyProof.Rows L2
def rgB (a b : Int) : Bool := decide (-(2 ^ 62) ≤ a) && (decide (a < 2 ^ 62) && (decide (-(2 ^ 62) ≤ b) && (decide (b < 2 ^ 62) && decide ((b - a).toNat ≤ 2 ^ 24))))
theorem rgB_ok {a b : Int} (h : rgB a b = true) : RgOk a b := by
  unfold rgB at h
  simp only [Bool.and_eq_true, decide_eq_true_eq] at h
  exact ⟨h.1, h.2.1, h.2.2.1, h.2.2.2.1, h.2.2.2.2⟩
def rgD (a b : Int) : List D := rngD a (b - a).toNat
section
variable {X : Cx} {Γ : Gm} {W : WX} {pos : Pos} {n : Nat} {ρ : Rho} {H : Hp} {h : AH}
theorem rg_rel {a b : Int} : RDs0 X Γ n ρ H (rgD a b) (rgV a b) := by
  unfold rgD rngD rgV
  generalize List.range (b - a).toNat = l
  induction l with
  | nil => exact .nil
  | cons i l ih => exact .cons (.int _) ih
def rg1 (mk : List D → D) (d : D) (h : AH) : Res D := match d with
  | .int i => if rgB 0 i = true then okR (mk (rgD 0 i)) h else none
  | _ => none
def rg1T (d : D) (h : AH) : Res D := match d with
  | .int i => if (rgB 0 i && !allUP (rgD 0 i)) = true then okR (.tup (rgD 0 i)) h else none
  | _ => none
def evLrg1 (f : Ev) : Ev := fun E h => bindR (f E h) (rg1 .lst)
def evTrg1 (f : Ev) : Ev := fun E h => bindR (f E h) rg1T
theorem xlrg1 {a : Expr} {p p2 pos2 : Pos} {f : Ev} (hm : X.mg "list" = none) (hm2 : X.mg "range" = none) (ha : DE X Γ W a f) (hc : X.calm = true := by rfl) (hg : Gl X "list" := by rfl) (hg2 : Gl X "range" := by rfl) (na : starEach [a] X.env = (false, eval a X.env) :: starEach [] X.env := by rfl)
    (nb : starEach [.Call (.Name "range" p2) [a] [] pos2] X.env = (false, eval (.Call (.Name "range" p2) [a] [] pos2) X.env) :: starEach [] X.env := by rfl) : DE X Γ W (.Call (.Name "list" p) [.Call (.Name "range" p2) [a] [] pos2] [] pos) (evLrg1 f) :=
  PE.imp (pe_listRg hc hg hm (prg_1 hg2 hm2 ha na) nb) fun σ H Q ⟨E, h, n, ρ, er, hr, q⟩ => ⟨E, h, n, ρ, er, hr, (Post.bind (R := RelT X.w X.K Γ) q).imp fun x H1 ⟨d, h1, n1, ρ1, x1, hr1, rd, q1⟩ => by
    unfold rg1 at q1
    cases d with
    | int i =>
      simp only at q1
      by_cases hc : rgB 0 i = true
      · rw [if_pos hc] at q1
        cases rd
        exact ⟨i, rfl, rgB_ok hc, fun p hp => q1 _ n1 ρ1 _ (Ext.new hp) (hr1.new hp) (.lst upd_same (hr1.fresh hp) rg_rel)⟩
      · rw [if_neg hc] at q1; exact q1.elim
    | _ => exact q1.elim⟩
theorem xtrg1 {a : Expr} {p p2 pos2 : Pos} {f : Ev} (hm : X.mg "tuple" = none) (hm2 : X.mg "range" = none) (ha : DE X Γ W a f) (hc : X.calm = true := by rfl) (hg : Gl X "tuple" := by rfl) (hg2 : Gl X "range" := by rfl) (na : starEach [a] X.env = (false, eval a X.env) :: starEach [] X.env := by rfl)
    (nb : starEach [.Call (.Name "range" p2) [a] [] pos2] X.env = (false, eval (.Call (.Name "range" p2) [a] [] pos2) X.env) :: starEach [] X.env := by rfl) : DE X Γ W (.Call (.Name "tuple" p) [.Call (.Name "range" p2) [a] [] pos2] [] pos) (evTrg1 f) :=
  PE.imp (pe_tupRg hc hg hm (prg_1 hg2 hm2 ha na) nb) fun σ H Q ⟨E, h, n, ρ, er, hr, q⟩ => ⟨E, h, n, ρ, er, hr, (Post.bind (R := RelT X.w X.K Γ) q).imp fun x H1 ⟨d, h1, n1, ρ1, x1, hr1, rd, q1⟩ => by
    unfold rg1T at q1
    cases d with
    | int i =>
      simp only at q1
      by_cases hc : (rgB 0 i && !allUP (rgD 0 i)) = true
      · rw [if_pos hc] at q1
        cases rd
        obtain ⟨hc, hup⟩ := Bool.and_eq_true_iff.mp hc
        exact ⟨i, rfl, rgB_ok hc, fun p hp => q1 _ n1 ρ1 _ (Ext.new hp) (hr1.new hp) (.tup upd_same (hr1.fresh hp) (by simpa using hup) rg_rel)⟩
      · rw [if_neg hc] at q1; exact q1.elim
    | _ => exact q1.elim⟩
end
end MP
set_option Elab.async false
set_option linter.all false
set_option maxRecDepth 100000
set_option maxHeartbeats 1000000
/-! MQI: dict comprehensions, by values. -/
namespace MP
open PySem PySem.Spec PyProof.Rows L2
/-- a dict in the making: nobody else's -/
structure DBan (w : World) (K : PySem.W.Frag) (Γ : Gm) (n : Nat) (ρ : Rho) (H : Hp) (a : Addr) (kvs : List (D × D)) : Prop where
  ban : ρ.ban a
  sys : (a == sysModules) = false
  nd : KNd kvs
  at_ : ∃ o es ep, H a = some (HD a o) ∧ o.ExactDict ∧ o.data = .dict es ep ∧ RelKs w K Γ n ρ H kvs es.toList
theorem DBan.mono {w : World} {K : PySem.W.Frag} {Γ : Gm} {n n' : Nat} {ρ ρ' : Rho} {H H' : Hp} {a : Addr} {kvs : List (D × D)} (d : DBan w K Γ n ρ H a kvs) (x : Ext n ρ H n' ρ' H') : DBan w K Γ n' ρ' H' a kvs := by
  obtain ⟨o, es, ep, h1, h2, h3, h4⟩ := d.at_
  exact ⟨x.bans a d.ban, d.sys, d.nd, o, es, ep, x.bkeep a _ d.ban h1, h2, h3, h4.mono x⟩
section
variable {X : Cx} {Γ : Gm} {W : WX} {pins : List (Addr × Obj)} {σ : L2.St} {H : Hp} {s : Shared} {n : Nat} {ρ : Rho} {h : AH} {E : Env'}
/-- one more entry -/
theorem DBan.set {a : Addr} {kvs : List (D × D)} {kd vd : D} {k : NestedKey} {kv vv : V} {key u : Value} {Ex : Value → Shared → Prop} {Q : Unit → Shared → Prop} (hu : X.A.units + 64 < cLine) (I : Inv X pins σ H s) (hr : HR X Γ n ρ H h) (d : DBan X.w X.K Γ n ρ H a kvs) (hk : keyOf kd = some k) (hz : kvs.length ≤ sizeLine)
    (rk : RD0 X Γ n ρ H kd kv) (rkv : RelV kv key) (rv : RD0 X Γ n ρ H vd vv) (rvv : RelV vv u) (q : ∀ H' s', Inv X pins σ H' s' → (∃ o, H' = upd H a (HD a o)) → DBan X.w X.K Γ n ρ H' a (putK kd vd kvs) → HR X Γ n ρ H' h → Q () s') : wpAny (model X.prog X.w) X.A (dictSet a key u) Q Ex s := by
  obtain ⟨o, es, ep, h1, h2, h3, h4⟩ := d.at_
  obtain ⟨ks, qk⟩ := h4.keys
  have di : DictIs X.w s.heap a o ks es ep := ⟨hd_get I h1, h2, h3, ent_of I h4 qk d.nd⟩
  have hl : kvs.length = es.size := by rw [h4.length, Array.length_toList]
  refine set_key (by omega) (nis I 8 kd k kv key hk rk rkv) (keyN_depth hk) di (by rw [← hl]; exact hz) fun h' o' es' ep' g1 g2 g3 g4 sb => ?_
  obtain ⟨p1, p2⟩ := put_rel h4 qk d.nd hk rk rkv rv rvv g4
  have I' : Inv X pins σ (upd H a (HD a o')) { s with heap := h', toks := s.toks + k.draws } := I.write (x := a) (e := a) (by rw [h1]; exact trivial) (.inl rfl) (fun b w' hb hw => (sb.2 b hb).trans hw) ⟨o', g1⟩ ⟨g1, ⟨o', g1⟩, fun h1 h2 a b => b _ a⟩
  exact q _ _ I' ⟨o', rfl⟩ ⟨d.ban, d.sys, p2, o', es', ep', upd_same, g2, g3, p1.mono0 (Ext0.over d.ban)⟩ (hr.over d.ban)
/-- the entries of a dict comprehension -/
def dcL (t : Tg) (ft : Env' → AH → Res Bool) (fk fv : Ev) : List D → Env' → AH → List (D × D) → Option (List (D × D) × AH)
  | [], _, h, acc => some (acc, h)
  | d :: ds, E, h, acc => match asg t d E with
    | none => none
    | some E1 => match ft E1 h with
      | some (.ok false, h1) => dcL t ft fk fv ds E h1 acc
      | some (.ok true, h1) => match fk E1 h1 with
        | some (.ok k, h2) => match fv E1 h2 with
          | some (.ok v, h3) => if ((keyOf k).isSome && (isV v && decide (acc.length ≤ sizeLine))) = true then dcL t ft fk fv ds E h3 (putK k v acc) else none
          | _ => none
        | _ => none
      | _ => none
def dcR (t : Tg) (ft : Env' → AH → Res Bool) (fk fv : Ev) (E0 : Env') (p : List D) (h : AH) : Res D := match dcL t ft fk fv p E0 h [] with
  | some (acc, h1) => okR (.ref h1.length) (h1 ++ [.dct acc])
  | none => none
def evDc (own : List Nat) (t : Tg) (fi : Env' → AH → Res (List D)) (ft : Env' → AH → Res Bool) (fk fv : Ev) : Ev := fun E h => bindR (fi E h) (dcR t ft fk fv (wipeE E own))
/-- it is there for all from now on -/
theorem DBan.done {n₀ : Nat} {ρ₀ : Rho} {H₀ : Hp} {h₀ : AH} {a : Addr} {kvs : List (D × D)} {Q : VK} {Wx : Value → Option Addr → Hp → Prop} (x : Ext n₀ ρ₀ H₀ n ρ H) (hr₀ : HR X Γ n₀ ρ₀ H₀ h₀) (ha : H₀ a = none) (d : DBan X.w X.K Γ n ρ H a kvs) (hr : HR X Γ n ρ H h)
    (q : PostE X Γ n₀ ρ₀ H₀ Wx (okR (.ref h.length) (h ++ [.dct kvs])) Q) : Q (.ref a) H := by
  obtain ⟨o, es, ep, h1, h2, h3, h4⟩ := d.at_
  have r : RD X Γ (n + 1) (put (unban ρ a) n a) H (.ref h.length) (.ref a) := by
    have z := RelD.ref (w := X.w) (K := X.K) (Γ := Γ) (n := n + 1) (ρ := put (unban ρ a) n a) (H := H) (m := n + 1) (i := n) (Nat.lt_succ_self _)
    rw [put_same] at z
    rw [hr.len]
    exact z
  exact q _ (n + 1) (put (unban ρ a) n a) H (x.adoptNew hr₀ ha d.ban) (hr.adopt d.ban ⟨put_nfz, o, es, ep, h1, h2, h3, d.sys, d.nd, h4.mono0 (Ext0.adopt d.ban)⟩) r
/-- the loop within the block -/
theorem dm_loop {Y : Cx} {kx vx tg iter : Expr} {ifs : List Expr} {scope : Scope} {pos : Pos} {t : Tg} {ft : Env' → AH → Res Bool} {fk fv : Ev} {vs : List Nat} {ds : List D} {J : It} {fp : List Addr} {it a : Addr} {tn : Nat → Heap → Prop} {R : Result → Shared → Prop} {res : List (D × D)} {h2 : AH} {E0 : Env'} {σ0 : L2.St}
    (hu : Y.A.units + 64 < cLine) (hxe : ∀ e s, Y.xe e s → False) (hc : Y.calm = true) (T : Turn Y.prog Y.w Y.K tg J fp it tn) (hS : ∀ i ∈ slots t, i ∈ vs) (hσ : L2.wipe σ0 vs = σ0) (pg : DG Y Γ tg t) (pt : DTs Y Γ W0 ifs ft) (pk : DE Y Γ W0 kx fk) (pv : DE Y Γ W0 vx fv)
    (fpS : ∀ {σ' : L2.St} {H' : Hp} {s' : Shared}, Inv Y [] σ' H' s' → (∀ b ∈ fp, H' b = none) → ∀ b ∈ fp, FpOk Y [] H' b) (er : EnvR Y Γ n ρ H E0 σ0) (ir : ItR Y Γ n ρ H ds J)
    (fin : ∀ H' s' n' ρ', Inv Y [] σ0 H' s' → Ext n ρ H n' ρ' H' → DBan Y.w Y.K Γ n' ρ' H' a res → HR Y Γ n' ρ' H' h2 → R (.ok .next) s')
    {H1 : Hp} {s1 : Shared} {n1 : Nat} {ρ1 : Rho} {h1 : AH} (I1 : Inv Y [] σ0 H1 s1) (st1 : tn 0 s1.heap) (f1 : ∀ b ∈ fp, H1 b = none) (x1 : Ext n ρ H n1 ρ1 H1) (d1 : DBan Y.w Y.K Γ n1 ρ1 H1 a []) (hr1 : HR Y Γ n1 ρ1 H1 h1) (hH : H a = none)
    (e : dcL t ft fk fv ds E0 h1 [] = some (res, h2)) :
    codeAny (model Y.prog Y.w) Y.A (.compLoop (.DictComp kx vx [⟨tg, iter, ifs, 0⟩] scope pos) 0 (.ref it) (.ref a) Y.env) R s1 := by
  have thnY : ∀ {α : Type} {tr : Sem α} {Q1 Q2 : α → Shared → Prop} {E2 : Value → Shared → Prop} {s : Shared}, wpAny (model Y.prog Y.w) Y.A tr Q1 Y.xe s → (∀ a s, Q1 a s → Q2 a s) → wpAny (model Y.prog Y.w) Y.A tr Q2 E2 s := fun h hQ => wpAny_mono h hQ fun e s z => (hxe e s z).elim
  refine compLoop_anyD (fun m s' => ∃ i H' n' ρ' h' acc, m + i = ds.length ∧ Inv Y [] σ0 H' s' ∧ tn i s'.heap ∧ (∀ b ∈ fp, H' b = none) ∧ Ext n ρ H n' ρ' H' ∧ DBan Y.w Y.K Γ n' ρ' H' a acc ∧ HR Y Γ n' ρ' H' h' ∧ dcL t ft fk fv (ds.drop i) E0 h' acc = some (res, h2)) ?_ ds.length
    ⟨0, H1, n1, ρ1, h1, [], rfl, I1, st1, f1, x1, d1, hr1, e⟩
  rintro m s2 ⟨i, H', n', ρ', h', acc, hm, I2, st2, f2, x2, d2, hr2, el⟩
  have er2 : EnvR Y Γ n' ρ' H' E0 σ0 := er.mono x2
  by_cases hi : i < ds.length
  · have hd : ds.drop i = ds[i] :: ds.drop (i + 1) := List.drop_eq_getElem_cons hi
    rw [hd, dcL] at el
    obtain ⟨go, yl⟩ := (ir i n' ρ' H' h' x2.toExt0 hr2).1 ds[i] (List.getElem?_eq_getElem hi)
    cases ea : asg t ds[i] E0 with
    | none => rw [ea] at el; cases el
    | some E1 =>
      rw [ea] at el
      simp only at el
      refine thnF (T.item Y rfl rfl rfl hc i [] s2 _ H' (fun _ _ => False) I2 (fpS I2 f2) st2 go) fun r s3 ⟨u, er3, w3⟩ => ?_
      subst er3
      refine thnF w3 fun _ s4 ⟨x, H4, I4, r4, y4, st4, f4⟩ => ?_
      obtain ⟨n4, ρ4, x4, hr4, r4'⟩ := yl x H4 y4
      have I4' := I4.pinned (fpS I4 f4) (T.obj _ _ st4)
      -- what a turn leaves
      have again : ∀ {σ5 : L2.St} {H5 : Hp} {s5 : Shared} {n5 : Nat} {ρ5 : Rho} {h5 : AH} {acc5 : List (D × D)}, L2.wipe σ5 vs = L2.wipe σ0 vs → Inv Y ([] ++ pinsAt fp s4.heap) σ5 H5 s5 → Ext n ρ H n5 ρ5 H5 → DBan Y.w Y.K Γ n5 ρ5 H5 a acc5 → HR Y Γ n5 ρ5 H5 h5 → dcL t ft fk fv (ds.drop (i + 1)) E0 h5 acc5 = some (res, h2) →
          ∃ m', m' < m ∧ ∃ i H' n' ρ' h' acc, m' + i = ds.length ∧ Inv Y [] σ0 H' s5 ∧ tn i s5.heap ∧ (∀ b ∈ fp, H' b = none) ∧ Ext n ρ H n' ρ' H' ∧ DBan Y.w Y.K Γ n' ρ' H' a acc ∧ HR Y Γ n' ρ' H' h' ∧ dcL t ft fk fv (ds.drop i) E0 h' acc = some (res, h2) := fun {σ5 H5 s5 n5 ρ5 h5 acc5} hw I5 x5 d5 hr5 e5 => by
        have kp : ∀ b ∈ fp, ∀ o, s4.heap.get? b = some o → s5.heap.get? b = some o ∧ H5 b = none := fun b hb o eb =>
          let z := I5.pin (b, o) (List.mem_append_right _ (List.mem_append_right _ (mem_pinsAt hb eb)))
          ⟨z.1, z.2.1⟩
        rw [hσ] at hw
        refine ⟨m - 1, by omega, i + 1, H5, n5, ρ5, h5, acc5, by omega, (I5.unpinned (pins := [])).weak (by rw [← hw, wipe_length]) (fun j v ej => ?_), T.keep _ _ _ st4 fun b hb o eb => (kp b hb o eb).1, fun b hb => ?_, x5, d5, hr5, e5⟩
        · rw [← hw] at ej
          exact (wipe_some ej).1
        · obtain ⟨o, eo, _⟩ := T.obj _ _ st4 b hb
          exact (kp b hb o eo).2
      have d4 := d2.mono x4
      refine thnY (pg.run _ s4 _ H4 x u (fun σ5 H5 => H5 = H4 ∧ L2.wipe σ5 vs = L2.wipe σ0 vs ∧ EnvR Y Γ n4 ρ4 H4 E1 σ5) I4' r4 ⟨E0, h', n4, ρ4, ds[i], er2.mono x4, hr4, r4', E1, ea, fun σ5 er5 s5 => ⟨rfl, ?_, er5⟩⟩) fun _ s5 ⟨σ5, H5, I5, eH, hw, er5⟩ => ?_
      · have z := wipe_same (σ := σ0) hS (by rw [hσ]; exact s5)
        exact z
      subst eH
      cases e2 : ft E1 h' with
      | none => rw [e2] at el; cases el
      | some r2 =>
        obtain ⟨o2, h3⟩ := r2
        rw [e2] at el
        cases o2 with
        | exc c fs => cases el
        | ok b =>
          refine thnY (pt.run _ s5 σ5 H5 (fun b' H6 => b' = b ∧ ∃ n6 ρ6, Ext n4 ρ4 H5 n6 ρ6 H6 ∧ HR Y Γ n6 ρ6 H6 h3) I5 ⟨E1, h', n4, ρ4, er5, hr4, by rw [e2]; exact fun b' n6 ρ6 H6 x6 hr6 eb => ⟨eb.symm, n6, ρ6, x6, hr6⟩⟩) fun b' s6 ⟨H6, I6, eb, n6, ρ6, x6, hr6⟩ => ?_
          subst eb
          cases b' with
          | false => exact again hw I6 ((x2.trans x4).trans x6) (d4.mono x6) hr6 el
          | true =>
            simp only at el
            cases e3 : fk E1 h3 with
            | none => rw [e3] at el; cases el
            | some r3 =>
              obtain ⟨o3, h5⟩ := r3
              rw [e3] at el
              cases o3 with
              | exc c fs => cases el
              | ok kd =>
                simp only at el
                cases e4 : fv E1 h5 with
                | none => rw [e4] at el; cases el
                | some r4 =>
                  obtain ⟨o4, h6⟩ := r4
                  rw [e4] at el
                  cases o4 with
                  | exc c fs => cases el
                  | ok vd =>
                    simp only at el
                    by_cases hk : ((keyOf kd).isSome && (isV vd && decide (acc.length ≤ sizeLine))) = true
                    · rw [if_pos hk] at el
                      simp only [Bool.and_eq_true, decide_eq_true_eq] at hk
                      obtain ⟨k, ek⟩ := Option.isSome_iff_exists.mp hk.1
                      refine thnY (pk.run _ s6 σ5 H6 (fun y H7 => ∃ n7 ρ7, Ext n6 ρ6 H6 n7 ρ7 H7 ∧ HR Y Γ n7 ρ7 H7 h5 ∧ RD Y Γ n7 ρ7 H7 kd y) I6 ⟨E1, h3, n6, ρ6, er5.mono x6, hr6, by rw [e3]; exact fun y n7 ρ7 H7 x7 hr7 r7 => ⟨n7, ρ7, x7, hr7, r7⟩⟩) fun key s7 ⟨y, H7, I7, ry, n7, ρ7, x7, hr7, r7⟩ => ?_
                      refine thnY (pv.run _ s7 σ5 H7 (fun z H8 => ∃ n8 ρ8, Ext n7 ρ7 H7 n8 ρ8 H8 ∧ HR Y Γ n8 ρ8 H8 h6 ∧ RD Y Γ n8 ρ8 H8 vd z) I7 ⟨E1, h5, n7, ρ7, (er5.mono x6).mono x7, hr7, by rw [e4]; exact fun z n8 ρ8 H8 x8 hr8 r8 => ⟨n8, ρ8, x8, hr8, r8⟩⟩) fun val s8 ⟨z, H8, I8, rz, n8, ρ8, x8, hr8, r8⟩ => ?_
                      have xa := ((x6.trans x7).trans x8)
                      refine (d4.mono xa).set hu I8 hr8 ek hk.2.2 ((r7.mono x8).down (key_val ek)) ry (r8.down hk.2.1) rz fun H9 s9 I9 ⟨o9, e9⟩ d9 hr9 => ?_
                      subst e9
                      exact again hw I9 (((x2.trans x4).trans xa).overNew hH) d9 hr9 el
                    · rw [if_neg hk] at el; cases el
  · have hd : ds.drop i = [] := List.drop_of_length_le (by omega)
    rw [hd, dcL] at el
    cases el
    refine thnF (T.done Y rfl rfl rfl hc i [] s2 _ H' (fun _ _ => False) I2 (fpS I2 f2) st2 ((ir i n' ρ' H' h2 x2.toExt0 hr2).2 (by show i = ds.length; omega))) fun r s3 ⟨er3, I3⟩ => ?_
    subst er3
    exact fin H' s3 n' ρ' I3 x2 d2 hr2
end
end MP
set_option Elab.async false
set_option linter.all false
set_option maxRecDepth 100000
set_option maxHeartbeats 1000000
/-! MQJ: dict comprehensions: the expression, the assignment. -/
namespace MP
open PySem PySem.Spec PyProof.Rows L2
section
variable {X : Cx} {Γ : Gm} {W : WX} {pins : List (Addr × Obj)} {σ : L2.St} {H : Hp} {s : Shared} {n : Nat} {ρ : Rho} {h : AH} {E : Env'} {tg iter kx vx : Expr} {ifs : List Expr} {scope : Scope} {own : List (Str × Nat)} {pos : Pos} {t : Tg} {fi : Env' → AH → Res (List D)} {ft : Env' → AH → Res Bool} {fk fv : Ev}
theorem dm_core {pos' : Pos} {use : Option (Value → Sem Unit)} {Qf : Value → Shared → Prop} {Q : VK} (hu : X.A.units + 64 < cLine) (hc : X.calm = true) (hN : X.N.Nodup) (I : Inv X pins σ H s) (er : EnvR X Γ n ρ H E σ) (hr : HR X Γ n ρ H h) (pi : DI X Γ W tg iter fi) (ok : BlkOk X.N X.env.scope scope own) (hS : ∀ i ∈ slots t, i ∈ own.map (·.2))
    (hg : blkAll X scope fun Y => DG Y Γ tg t) (ht : blkAll X scope fun Y => DTs Y Γ W0 ifs ft) (hk : blkAll X scope fun Y => DE Y Γ W0 kx fk) (hv : blkAll X scope fun Y => DE Y Γ W0 vx fv) (hs : ∀ x, foldedSetIterable iter X.env x = pure x)
    (q : PostE X Γ n ρ H (fun c d H' => W c d σ H') (evDc (own.map (·.2)) t fi ft fk fv E h) Q)
    (fin : ∀ a C s' m H', Inv X pins σ H' s' → Q (.ref a) H' → s'.heap.Ns C m → FpOk X pins H' C → compPost (model X.prog X.w) X.A X.xe use Qf (.ref a) C (.ok .next) s') :
    wpAny (model X.prog X.w) X.A (comprehension (.DictComp kx vx [⟨tg, iter, ifs, 0⟩] scope pos) scope X.env pos' newDict false (eval iter X.env) use) Qf X.xe s := by
  have free : ∀ y ∈ scope.names, y.2 = .free → ∃ c, X.env.cells.lookup y.1 = some c := fun y hy e => (ok.free y hy e).elim (fun k => I.ok.has _ (.inl k)) fun k => I.ok.has _ (.inr k)
  have run := pi.run pins s σ H _ I ⟨E, h, n, ρ, er, hr, Post.bind (R := ItR X Γ) q⟩
  refine wpAny_comprehension_free (use := use) rfl hs (closure_ok free) ok.kind (fun y hy e => by rw [ok.uniq y hy, e]) (thn run fun xv s1 hx => thn hx fun itv s2 z => ?_)
  obtain ⟨it, fp, tn, J, H2, e, I2, T, st2, f2, ds, h1, n1, ρ1, x1, hr1, ir, q1⟩ := z
  subst e
  have hp : H2 s2.heap.objs.size = none := I2.hok.fresh (Nat.le_refl _)
  unfold dcR at q1
  cases eL : dcL t ft fk fv ds (wipeE E (own.map (·.2))) h1 [] with
  | none => rw [eL] at q1; exact q1.elim
  | some r =>
    obtain ⟨res, h2⟩ := r
    rw [eL] at q1
    simp only at q1
    refine wpAny_newObj_type (newEnv_comp ?_)
    have sz : ∀ b ∈ fp, b < s2.heap.objs.size := fun b hb => let ⟨_, eb, _⟩ := T.obj _ _ st2 b hb; Heap.lt_size eb
    have I3 : Inv X pins σ (upd H2 s2.heap.objs.size (HD s2.heap.objs.size emptyD)) { s2 with heap := s2.heap.push emptyD } := I2.laid (a := s2.heap.objs.size) (t' := s2.toks) (fun _ _ e => Heap.get?_push_of_some _ e) (Nat.le_refl _) (hd_ok (Heap.get?_push_size _ rfl))
    have f3 : ∀ b ∈ fp, FpOk X pins (upd H2 s2.heap.objs.size (HD s2.heap.objs.size emptyD)) b ∧ b < (s2.heap.push emptyD).objs.size := fun b hb =>
      ⟨⟨by rw [upd_ne (Nat.ne_of_lt (sz b hb))]; exact (f2 b hb).1, (f2 b hb).2⟩, by rw [Heap.size_push]; exact Nat.lt_succ_of_lt (sz b hb)⟩
    have I4 := block_start I3 ok hN f3
    have xb := Ext.banned (n := n1) (ρ := ρ1) (o := HD s2.heap.objs.size emptyD) hp
    have d0 : DBan X.w X.K Γ n1 (ban ρ1 s2.heap.objs.size) (upd H2 s2.heap.objs.size (HD s2.heap.objs.size emptyD)) s2.heap.objs.size [] := ⟨.inr rfl, beq_eq_false_iff_ne.mpr (Nat.ne_of_gt I2.big), List.nodup_nil, emptyD, #[], 0, upd_same, ⟨rfl, rfl, rfl⟩, rfl, .nil⟩
    have st4 : tn 0 (pushCells ((s2.heap.push emptyD).push { cls := .type "dict", data := .dict #[] }) scope.names) := T.keep _ _ _ st2 fun b _ o e => pushCells_keeps _ _ _ _ (Heap.get?_push_of_some _ (Heap.get?_push_of_some _ e))
    have loop := dm_loop (Γ := Γ) (Y := X.blk { s2 with heap := s2.heap.push emptyD } (upd H2 s2.heap.objs.size (HD s2.heap.objs.size emptyD)) scope (compEnvC scope (cellsFrom ((s2.heap.push emptyD).objs.size + 1) scope.names (cloFrom X.env.cells scope.names [])) (s2.heap.push emptyD).objs.size X.env) fp)
      (kx := kx) (vx := vx) (ifs := ifs) (iter := iter) (scope := scope) (pos := pos) (n := n1) (ρ := ρ1) (H := H2) (vs := own.map (·.2)) (a := s2.heap.objs.size) (R := compPost (model X.prog X.w) X.A X.xe use Qf (.ref s2.heap.objs.size) (s2.heap.push emptyD).objs.size) hu (fun _ _ z => z) hc T hS ?wp (hg _ _ _ _ _) (ht _ _ _ _ _) (hk _ _ _ _ _) (hv _ _ _ _ _) ?fpS ((er.mono x1).wipe (own.map (·.2))) ir ?fin I4 st4 (fun b hb => (f3 b hb).1.1) xb d0 (hr1.banned hp) hp eL
    case wp => exact wipe_same (σ := σ) (σ2 := L2.wipe σ (own.map (·.2))) (S := []) (fun i hi => by cases hi) SameS.refl
    case fpS => exact fun {σ' H' s'} I' hn b hb => ⟨hn b hb, (I'.ok.exf b hb).1, I'.ok.exfs b hb, .inl hb, fun x c e => (I'.ok.exf b hb).2 x c e, fun p hp => absurd (show p ∈ ([] : List (Addr × Obj)) ++ [] from hp) (by simp)⟩
    case fin =>
      intro H' s' n' ρ' I' x' d' hr'
      have I7 : Inv X pins σ H' s' := I3.call' (ch := fp) I'.os I'.base I'.hok I'.bare fun b hb => ⟨(f3 b hb).1.2.2.2.1, (f3 b hb).1.2.1, (f3 b hb).1.2.2.2.2.1, (f3 b hb).1.2.2.2.2.2⟩
      obtain ⟨m, hn, _⟩ := I'.loc
      exact fin _ _ s' m H' I7 (d'.done x' hr1 hp hr' q1) hn (I3.fpOk (Nat.le_refl _) I'.free)
    exact codeAny_compStart_dict loop (T.self X.A 0 _ _ _ st4 loop)
theorem xdc (hr : Room k X.A) (hN : X.N.Nodup) (pi : DI X Γ W tg iter fi) (ok : BlkOk X.N X.env.scope scope own) (hg : blkAll X scope fun Y => DG Y Γ tg t) (ht : blkAll X scope fun Y => DTs Y Γ W0 ifs ft) (hk : blkAll X scope fun Y => DE Y Γ W0 kx fk) (hv : blkAll X scope fun Y => DE Y Γ W0 vx fv) (hc : X.calm = true := by rfl) (hS : ∀ i ∈ slots t, i ∈ own.map (·.2) := by decide) (hs : ∀ x, foldedSetIterable iter X.env x = pure x := by intro _; rfl) :
    DE X Γ W (.DictComp kx vx [⟨tg, iter, ifs, 0⟩] scope pos) (evDc (own.map (·.2)) t fi ft fk fv) := by
  refine ⟨fun pins s σ H Q I ⟨E, h, n, ρ, er, hr0, q⟩ => ?_⟩
  rw [arm_eval_DictComp]
  refine dm_core hr.units hc hN I er hr0 pi ok hS hg ht hk hv hs q fun a C s' m H' I' q' hn f => ⟨m, hn, fun h'' sb => ?_⟩
  obtain ⟨f0, f1, f2, f3, f4, f5⟩ := f
  exact ⟨.ref a, H', I'.turned (t' := s'.toks) (fun b o hb e => (sb.2 b hb).trans e) f0 f1 f3 f4 f5, rfl, q'⟩
/-- y = {..} where the model stores within -/
theorem ssetDc {i : Nat} {y : Str} {py spos : Pos} (hr : Room k X.A) (hN : X.N.Nodup) (pi : DI X Γ W tg iter fi) (ok : BlkOk X.N X.env.scope scope own) (hg : blkAll X scope fun Y => DG Y Γ tg t) (ht : blkAll X scope fun Y => DTs Y Γ W0 ifs ft) (hk : blkAll X scope fun Y => DE Y Γ W0 kx fk) (hv : blkAll X scope fun Y => DE Y Γ W0 vx fv)
    (hy : X.N[i]? = some y := by rfl) (hyl : X.env.scope.names.lookup y = some .local := by rfl) (hsw : swapsWith (.DictComp kx vx [⟨tg, iter, ifs, 0⟩] scope pos) (some (.Name y py)) spos.line X.env = pure true := by rfl) (hc : X.calm = true := by rfl) (hS : ∀ i ∈ slots t, i ∈ own.map (·.2) := by decide) (hs : ∀ x, foldedSetIterable iter X.env x = pure x := by intro _; rfl) :
    DS X Γ W (.Assign [.Name y py] (.DictComp kx vx [⟨tg, iter, ifs, 0⟩] scope pos) spos) (svSet i (evDc (own.map (·.2)) t fi ft fk fv)) := by
  refine ⟨fun pins s σ H Z I ⟨E, h, n, ρ, er, hr0, q⟩ => ?_⟩
  rw [exec_Assign_Name_used _ _ _ _ hsw]
  refine wpAny_bind (wpAny_standAt (wpAny_bind ?_))
  have q2 := PostS.expr (R := RelT X.w X.K Γ) er q
  have core := dm_core (pos := pos) (pos' := firstIterPos [⟨tg, iter, ifs, 0⟩] pos) (use := some (assign (.Name y py) X.env)) (Qf := fun _ s' => SP X pins Z .next s') hr.units hc hN I er hr0 pi ok hS hg ht hk hv hs q2 fun a C s' m H' I' ⟨d, h2, n2, ρ2, x2, hr2, rd, q3⟩ hn f => ?_
  · exact wpAny_bind (thn core fun _ s' hq => wpAny_pure (wpAny_pure hq))
  · show wpAny _ _ (assign (.Name y py) X.env (.ref a)) _ _ _
    refine wpAny_assign_Name (store_ok2 (v := V.ref a) I' hN hy (.inl hyl) rfl (fun s2 I2 ⟨b, sb, hb⟩ => ?_) (.inr hyl))
    obtain ⟨f0, f1, f2, f3, f4, f5⟩ := f
    have hne : C ≠ b := hb.elim (fun z => by rw [z]; exact f1) fun z e => f4 y b z e.symm
    refine ⟨m, hn.sameBut sb hne, fun h3 sb3 => ?_⟩
    exact ⟨_, H', I2.turned (t' := s2.toks) (fun b o hb e => (sb3.2 b hb).trans e) f0 f1 f3 f4 f5, q3 _ n2 ρ2 H' Ext.refl hr2 ((er.mono x2).set rd)⟩
end
end MP
set_option Elab.async false
set_option linter.all false
set_option maxRecDepth 100000
set_option maxHeartbeats 1000000
/-! MQK: dict displays. -/
namespace MP
open PySem PySem.Spec PyProof.Rows L2
section
variable {X : Cx} {Γ : Gm} {W : WX} {pins : List (Addr × Obj)} {σ : L2.St} {H : Hp} {s : Shared} {n : Nat} {ρ : Rho} {h : AH} {E : Env'} {pos : Pos}
/-- pairs of values -/
def RelPs (w : World) (K : PySem.W.Frag) (Γ : Gm) (n : Nat) (ρ : Rho) (H : Hp) (ds : List (D × D)) (ps : List (V × V)) : Prop := RelDs w K Γ n ρ H n (ds.map (·.1)) (ps.map (·.1)) ∧ RelDs w K Γ n ρ H n (ds.map (·.2)) (ps.map (·.2))
abbrev Evp := Env' → AH → Res (List (D × D))
def DPs (X : Cx) (Γ : Gm) (W : WX) (pos : Pos) (keys : List (Option Expr)) (values : List Expr) (g : Evp) : Prop := ∀ (pins : List (Addr × Obj)) (s : Shared) (σ : L2.St) (H : Hp) (Q : List (V × V) → Hp → Prop), Inv X pins σ H s → (∃ E h n ρ, EnvR X Γ n ρ H E σ ∧ HR X Γ n ρ H h ∧ Post X Γ (RelPs X.w X.K Γ) n ρ H (fun c d H' => W c d σ H') (g E h) Q) →
  wpAny (model X.prog X.w) X.A (evalPairs (pairTrees keys values X.env pos)) (fun vs s' => ∃ ps H', Inv X pins σ H' s' ∧ VV ps vs ∧ Q ps H') X.xe s
def apNil : Evp := fun _ h => okR [] h
def apCons (fk fv : Ev) (g : Evp) : Evp := fun E h => bindR (fk E h) fun k h1 => bindR (fv E h1) fun v h2 => bindR (g E h2) fun r h3 => okR ((k, v) :: r) h3
theorem pnil : DPs X Γ W pos [] [] apNil := fun pins s σ H Q I ⟨E, h, n, ρ, er, hr, q⟩ => pairTrees_nil_walk ⟨[], H, I, .nil, q.okR hr ⟨.nil, .nil⟩⟩
theorem pcons {k v : Expr} {ks : List (Option Expr)} {vs : List Expr} {fk fv : Ev} {g : Evp} (hk : DE X Γ W k fk) (hv : DE X Γ W v fv) (hg : DPs X Γ W pos ks vs g) : DPs X Γ W pos (some k :: ks) (v :: vs) (apCons fk fv g) := fun pins s σ H Q I ⟨E, h, n, ρ, er, hr, q⟩ => by
  refine pairTrees_cons_walk (thn (hk.run pins s σ H _ I ⟨E, h, n, ρ, er, hr, Post.bind (R := RelT X.w X.K Γ) q⟩) fun u s1 ⟨x, H1, I1, rx, kd, h1, n1, ρ1, x1, hr1, rk, q1⟩ => ?_)
  refine thn (hv.run pins s1 σ H1 _ I1 ⟨E, h1, n1, ρ1, er.mono x1, hr1, Post.bind (R := RelT X.w X.K Γ) q1⟩) fun w2 s2 ⟨y, H2, I2, ry, vd, h2, n2, ρ2, x2, hr2, rv, q2⟩ => ?_
  refine thn (hg pins s2 σ H2 _ I2 ⟨E, h2, n2, ρ2, (er.mono x1).mono x2, hr2, Post.bind (R := RelPs X.w X.K Γ) q2⟩) fun ws s3 ⟨ps, H3, I3, rel, r, h3, n3, ρ3, x3, hr3, rr, q3⟩ => ?_
  exact ⟨(x, y) :: ps, H3, I3, .cons ⟨rx, ry⟩ rel, q3.okR hr3 ⟨.cons ((rk.mono x2).mono x3) rr.1, .cons (rv.mono x3) rr.2⟩⟩
/-- pairs stored one behind the other -/
def putAll : List (D × D) → List (D × D) → Option (List (D × D))
  | [], acc => some acc
  | (k, v) :: r, acc => if ((keyOf k).isSome && (isV v && decide (acc.length ≤ sizeLine))) = true then putAll r (putK k v acc) else none
theorem store_pairs {a : Addr} (hu : X.A.units + 64 < cLine) : ∀ {ds : List (D × D)} {ps : List (V × V)} {vs : List (Value × Value)} {acc res : List (D × D)} {H : Hp} {s : Shared} {n₀ : Nat} {ρ₀ : Rho} {H₀ : Hp} {Q : PUnit → Shared → Prop}, Inv X pins σ H s → Ext n₀ ρ₀ H₀ n ρ H → H₀ a = none → HR X Γ n ρ H h → DBan X.w X.K Γ n ρ H a acc → RelPs X.w X.K Γ n ρ H ds ps → VV ps vs → putAll ds acc = some res →
    (∀ H' s', Inv X pins σ H' s' → Ext n₀ ρ₀ H₀ n ρ H' → HR X Γ n ρ H' h → DBan X.w X.K Γ n ρ H' a res → Q PUnit.unit s') →
    wpAny (model X.prog X.w) X.A (forIn vs PUnit.unit fun (x : Value × Value) (_ : PUnit) => (do dictSet a x.1 x.2; pure (ForInStep.yield PUnit.unit) : Sem (ForInStep PUnit))) Q X.xe s
  | [], ps, vs, acc, res, H, s, n₀, ρ₀, H₀, Q, I, x, ha, hr, d, rp, vv, e, q => by
    have e1 : ps = [] := by
      have z := rp.1.length
      cases ps with
      | nil => rfl
      | cons _ _ => simp at z
    subst e1
    cases vv
    cases e
    rw [List.forIn_nil]
    exact wpAny_pure (q H s I x hr d)
  | (k, v) :: ds, [], vs, acc, res, H, s, n₀, ρ₀, H₀, Q, I, x, ha, hr, d, rp, vv, e, q => by
    have z := rp.1.length
    simp at z
  | (k, v) :: ds, (y, z) :: ps, _, acc, res, H, s, n₀, ρ₀, H₀, Q, I, x, ha, hr, d, rp, .cons (b := (key, val)) (l₂ := vs) hv vv, e, q => by
    rw [List.forIn_cons]
    unfold putAll at e
    by_cases hk : ((keyOf k).isSome && (isV v && decide (acc.length ≤ sizeLine))) = true
    · rw [if_pos hk] at e
      simp only [Bool.and_eq_true, decide_eq_true_eq] at hk
      obtain ⟨kk, ek⟩ := Option.isSome_iff_exists.mp hk.1
      obtain ⟨r1, r2⟩ := rp
      cases r1 with
      | cons ra rb =>
        cases r2 with
        | cons rc rd =>
          refine wpAny_bind (wpAny_bind (d.set hu I hr ek hk.2.2 (ra.down (key_val ek)) hv.1 (rc.down hk.2.1) hv.2 fun H' s' I' ⟨o, eH⟩ d' hr' => wpAny_pure ?_))
          subst eH
          have x0 : Ext0 n ρ H n ρ (upd H a (HD a o)) := Ext0.over d.ban
          exact store_pairs hu I' (x.overNew ha) ha hr' d' ⟨rb.mono0 x0 (Nat.le_refl _) (Nat.le_refl _), rd.mono0 x0 (Nat.le_refl _) (Nat.le_refl _)⟩ vv e q
    · rw [if_neg hk] at e; cases e
def dctR (ps : List (D × D)) (h : AH) : Res D := match putAll ps [] with
  | some kvs => okR (.ref h.length) (h ++ [.dct kvs])
  | none => none
def evDctM (g : Evp) : Ev := fun E h => bindR (g E h) dctR
theorem xdct {k : Nat} {keys : List (Option Expr)} {values : List Expr} {g : Evp} (hr : Room k X.A) (p : DPs X Γ W pos keys values g) (hall : keys.all (·.isSome) = true := by rfl) (hl : keys.length = values.length := by rfl) (h0 : keys ≠ [] := by exact fun z => nomatch z) (h15 : keys.length ≤ 15 := by decide) :
    DE X Γ W (.Dict keys values pos) (evDctM g) := by
  refine ⟨fun pins s σ H Q I ⟨E, h, n, ρ, er, hr0, q⟩ => ?_⟩
  have hn := pairTrees_length keys values X.env pos hall hl
  have hne : pairTrees keys values X.env pos ≠ [] := fun z => by
    rw [z] at hn
    exact h0 (List.length_eq_zero_iff.mp hn.symm)
  rw [arm_eval_Dict, zip_pairTrees keys values X.env pos hall hl, dictDisplay_pairs _ hne (by omega)]
  refine wpAny_bind (wpAny_standAt (wpAny_bind ?_))
  unfold subDict
  refine wpAny_bind (wpAny_alloc ?_)
  refine wpAny_bind (wpAny_holding ?_)
  rw [if_pos (by omega)]
  have hp : H s.heap.objs.size = none := I.hok.fresh (Nat.le_refl _)
  have I1 : Inv X pins σ (upd H s.heap.objs.size (HD s.heap.objs.size emptyD)) { s with heap := s.heap.push emptyD } := I.laid (a := s.heap.objs.size) (t' := s.toks) (fun _ _ e => Heap.get?_push_of_some _ e) (Nat.le_refl _) (hd_ok (Heap.get?_push_size _ rfl))
  have xb := Ext.banned (n := n) (ρ := ρ) (o := HD s.heap.objs.size emptyD) hp
  have d0 : DBan X.w X.K Γ n (ban ρ s.heap.objs.size) (upd H s.heap.objs.size (HD s.heap.objs.size emptyD)) s.heap.objs.size [] := ⟨.inr rfl, beq_eq_false_iff_ne.mpr (Nat.ne_of_gt I.big), List.nodup_nil, emptyD, #[], 0, upd_same, ⟨rfl, rfl, rfl⟩, rfl, .nil⟩
  unfold evDctM at q
  cases eg : g E h with
  | none => rw [eg] at q; exact q.elim
  | some r =>
    obtain ⟨o, h1⟩ := r
    rw [eg] at q
    cases o with
    | exc c fs =>
      refine wpAny_bind (thn (p pins _ σ _ (fun _ _ => False) I1 ⟨E, h, n, ban ρ s.heap.objs.size, er.mono xb, hr0.banned hp, ?_⟩) fun vs s' ⟨ps, H', _, _, z⟩ => z.elim)
      rw [eg]
      exact Post.mono (R := RelPs X.w X.K Γ) (Q := fun _ _ => False) (r := some (.exc c fs, h1)) xb q
    | ok ds =>
      simp only [bindR] at q
      unfold dctR at q
      cases ep : putAll ds [] with
      | none => rw [ep] at q; exact q.elim
      | some kvs =>
        rw [ep] at q
        simp only at q
        refine wpAny_bind (thn (p pins _ σ _ (fun ps H' => ∃ n1 ρ1, Ext n (ban ρ s.heap.objs.size) (upd H s.heap.objs.size (HD s.heap.objs.size emptyD)) n1 ρ1 H' ∧ HR X Γ n1 ρ1 H' h1 ∧ RelPs X.w X.K Γ n1 ρ1 H' ds ps) I1 ⟨E, h, n, ban ρ s.heap.objs.size, er.mono xb, hr0.banned hp, by rw [eg]; exact fun ps n1 ρ1 H' x1 hr1 rp => ⟨n1, ρ1, x1, hr1, rp⟩⟩) fun vs s2 ⟨ps, H2, I2, vv, n1, ρ1, x1, hr1, rp⟩ => ?_)
        refine wpAny_holding ?_
        refine wpAny_bind (store_pairs hr.units I2 (xb.trans x1) hp hr1 (d0.mono x1) rp vv ep fun H3 s3 I3 x3 hr3 d3 => ?_)
        exact wpAny_pure (wpAny_pure (wpAny_pure ⟨.ref s.heap.objs.size, H3, I3, rfl, d3.done x3 hr0 hp hr3 q⟩))
end
end MP
set_option Elab.async false
set_option linter.all false
set_option maxRecDepth 100000
set_option maxHeartbeats 1000000
/-! MQL: dict(pairs). -/
namespace MP
open PySem PySem.Spec PyProof.Rows L2
def pairOf : D → Option (D × D)
  | .tup [k, v] => some (k, v)
  | _ => none
def pairsOf : List D → Option (List (D × D))
  | [] => some []
  | d :: ds => match pairOf d with
    | some p => match pairsOf ds with
      | some r => some (p :: r)
      | none => none
    | none => none
section
variable {X : Cx} {Γ : Gm} {W : WX} {pins : List (Addr × Obj)} {σ : L2.St} {H : Hp} {s : Shared} {n : Nat} {ρ : Rho} {h : AH} {E : Env'} {pos : Pos}
/-- a pair of values as they stand -/
def PRel (X : Cx) (Γ : Gm) (n : Nat) (ρ : Rho) (H : Hp) (p : D × D) (q : Value × Value) : Prop := ∃ x y, RD0 X Γ n ρ H p.1 x ∧ RelV x q.1 ∧ RD0 X Γ n ρ H p.2 y ∧ RelV y q.2
theorem pair_item {d : D} {p : D × D} {x : V} {u : Value} (I : Inv X pins σ H s) (e : pairOf d = some p) (r : RD0 X Γ n ρ H d x) (rx : RelV x u) : ∃ a k v, u = .ref a ∧ PairAt s.heap a k v ∧ PRel X Γ n ρ H p (k, v) := by
  unfold pairOf at e
  split at e
  · rename_i kd vd
    cases e
    obtain ⟨a, ws, ea, hs, rr⟩ := RelD.tup_seq r
    subst ea
    cases rx
    obtain ⟨its, rv, it, _⟩ := I.tuple hs
    cases rr with
    | cons ra rr =>
      cases rr with
      | cons rb rr =>
        cases rr
        cases rv with
        | cons ka rv =>
          cases rv with
          | cons kb rv =>
            cases rv
            exact ⟨a, _, _, rfl, .inl it, _, _, ra, ka, rb, kb⟩
  · cases e
theorem pair_items (I : Inv X pins σ H s) : ∀ {ds : List D} {prs : List (D × D)} {vs : List V} {us : List Value}, pairsOf ds = some prs → RDs0 X Γ n ρ H ds vs → Vals vs us →
    ∃ (as : List Addr) (ps : List (Value × Value)), us = as.map Value.ref ∧ as.length = ps.length ∧ prs.length = ps.length ∧ (∀ (j : Nat) (k v : Value), ps[j]? = some (k, v) → ∃ a p, as[j]? = some a ∧ prs[j]? = some p ∧ PairAt s.heap a k v ∧ PRel X Γ n ρ H p (k, v))
  | [], _, _, _, e, .nil, .nil => by cases e; exact ⟨[], [], rfl, rfl, rfl, fun j k v z => by simp at z⟩
  | d :: ds, prs, _, _, e, .cons r t, .cons rx rs => by
    unfold pairsOf at e
    cases e0 : pairOf d with
    | none => rw [e0] at e; cases e
    | some p =>
      cases e1 : pairsOf ds with
      | none => rw [e0, e1] at e; cases e
      | some r1 =>
        rw [e0, e1] at e
        cases e
        obtain ⟨as, ps, h1, h2, h3, h4⟩ := pair_items I e1 t rs
        obtain ⟨a, k, v, eu, pa, pr⟩ := pair_item I e0 r rx
        subst eu
        refine ⟨a :: as, (k, v) :: ps, by rw [h1]; rfl, by simp [h2], by simp [h3], fun j k' v' z => ?_⟩
        cases j with
        | zero =>
          simp only [List.getElem?_cons_zero, Option.some.injEq, Prod.mk.injEq] at z
          obtain ⟨z1, z2⟩ := z
          subst z1 z2
          exact ⟨a, p, rfl, rfl, pa, pr⟩
        | succ j =>
          obtain ⟨a', p', q1, q2, q3⟩ := h4 j k' v' (by simpa using z)
          exact ⟨a', p', by simpa using q1, by simpa using q2, q3⟩
/-- a tuple that may be dict()'s argument: its object -/
theorem tup_plain {ds : List D} {v : V} (I : Inv X pins σ H s) (r : RD0 X Γ n ρ H (.tup ds) v) (hup : allUP ds = true) : ∃ a o its z vs, v = .ref a ∧ s.heap.get? a = some o ∧ o.cls = .type "tuple" ∧ o.dict = none ∧ o.data = .seq its z ∧ Vals vs its.toList ∧ RDs0 X Γ n ρ H ds vs := by
  cases r with
  | tup h f z r => rw [hup] at z; cases z
  | tupZ h1 hd f r =>
    obtain ⟨g1, _, its, rv, o', g2, g3, m, g4⟩ := I.hok _ _ h1
    rw [g1] at g2
    cases g2
    exact ⟨_, _, its.toArray, m, _, rfl, g1, g3, hd, g4, by simpa using rv, r⟩
  | tupK a b c d e v r => exact ⟨_, _, _, _, _, rfl, I.kIn _ _ a, b, c, d, v, r⟩
theorem putAll_take : ∀ {ds acc : List (D × D)} {res : List (D × D)} {i : Nat} {p : D × D}, putAll ds acc = some res → ds[i]? = some p → ∃ a, putAll (ds.take i) acc = some a ∧ (keyOf p.1).isSome = true ∧ isV p.2 = true ∧ a.length ≤ sizeLine ∧ putAll (ds.take (i + 1)) acc = some (putK p.1 p.2 a)
  | [], _, _, _, _, _, e => by simp at e
  | (k, v) :: ds, acc, res, i, p, h, e => by
    unfold putAll at h
    by_cases hk : ((keyOf k).isSome && (isV v && decide (acc.length ≤ sizeLine))) = true
    · rw [if_pos hk] at h
      cases i with
      | zero =>
        have e2 : (k, v) = p := by simpa using e
        subst e2
        have hk2 := hk
        simp only [Bool.and_eq_true, decide_eq_true_eq] at hk2
        refine ⟨acc, rfl, hk2.1, hk2.2.1, hk2.2.2, ?_⟩
        simp only [List.take_succ_cons, List.take_zero, putAll]
        rw [if_pos hk]
      | succ i =>
        obtain ⟨a, h1, h2, h3, h4, h5⟩ := putAll_take (i := i) h (by simpa using e)
        refine ⟨a, ?_, h2, h3, h4, ?_⟩
        · rw [List.take_succ_cons, putAll, if_pos hk]; exact h1
        · rw [List.take_succ_cons, putAll, if_pos hk]; exact h5
    · rw [if_neg hk] at h; cases h
/-- the dict in the making, over any heap that has kept all -/
def TabL (X : Cx) (Γ : Gm) (n : Nat) (ρ : Rho) (H : Hp) (h₀ : Heap) (d : Addr) (prs : List (D × D)) (i : Nat) (hp : Heap) : Prop := (∀ b o, h₀.get? b = some o → hp.get? b = some o) ∧ ∃ acc o es ep, putAll (prs.take i) [] = some acc ∧ hp.get? d = some o ∧ o.ExactDict ∧ o.data = .dict es ep ∧ KNd acc ∧ RelKs X.w X.K Γ n ρ H acc es.toList
def dctP (ds : List D) (h : AH) : Option (D × AH) := match ds with
  | [d] => match (match vw h d with
      | .tup xs => if allUP xs = true then some xs else none
      | .lst xs => some xs
      | _ => none) with
    | some xs => match pairsOf xs with
      | some prs => match putAll prs [] with
        | some kvs => some (.ref h.length, h ++ [.dct kvs])
        | none => none
      | none => none
    | none => none
  | _ => none
/-- a new dict is there for all -/
theorem dct_new {a : Addr} {o : Obj} {es : Array DictEntry} {ep : Nat} {kvs : List (D × D)} {h' : Heap} {tk : Nat} {Q : VK} {Wx : Value → Option Addr → Hp → Prop} (I : Inv X pins σ H s) (hr : HR X Γ n ρ H h) (hp : H a = none) (ha : s.heap.objs.size ≤ a) (k : ∀ b o, s.heap.get? b = some o → h'.get? b = some o) (g : h'.get? a = some o) (ex : o.ExactDict) (dt : o.data = .dict es ep) (nd : KNd kvs) (rk : RelKs X.w X.K Γ n ρ H kvs es.toList)
    (q : PostE X Γ n ρ H Wx (some (.ok (.ref h.length), h ++ [.dct kvs])) Q) : EP X pins σ Q (.ref a) { s with heap := h', toks := tk } := by
  have x2 := Ext.track (n := n) (ρ := ρ) (o := HD a o) hp
  have sys : (a == sysModules) = false := beq_eq_false_iff_ne.mpr (Nat.ne_of_gt (Nat.lt_of_lt_of_le I.big ha))
  exact ⟨.ref a, _, I.laid (a := a) (o := HD a o) (t' := tk) k ha (hd_ok g), rfl, q _ (n + 1) (put ρ n a) _ x2 (hr.track hp ⟨put_nfz, o, es, ep, upd_same, ex, dt, sys, nd, rk.mono x2⟩) (ref_new hr)⟩
theorem dctP_run {T : String} {a : Addr} {fp : List Addr} {ps : List (Value × Value)} {OK : Heap → Prop} {prs kvs : List (D × D)} {Q : VK} {Wx : Value → Option Addr → Hp → Prop} (hu : X.A.units + 64 < cLine) (hc : X.calm = true) (I : Inv X pins σ H s) (hr : HR X Γ n ρ H h)
    (P : PairArg X.prog X.w T a fp [] ps.length (PairRel ps) OK) (ok : OK s.heap) (hl : prs.length = ps.length) (hps : ∀ (j : Nat) (k v : Value), ps[j]? = some (k, v) → ∃ p, prs[j]? = some p ∧ PRel X Γ n ρ H p (k, v)) (e : putAll prs [] = some kvs)
    (q : PostE X Γ n ρ H Wx (some (.ok (.ref h.length), h ++ [.dct kvs])) Q) : wpAny (model X.prog X.w) X.A (call (.type "dict") [.ref a]) (EP X pins σ Q) X.xe s := by
  have hp : H s.heap.objs.size = none := I.hok.fresh (Nat.le_refl _)
  refine call_dict_arg P ok fun s₁ hs₁ hdf ok₁ => ?_
  subst hs₁
  refine updateFrom_arg (A := X.A.in1) (Tab := TabL X Γ n ρ H s.heap s.heap.objs.size prs) P .none (I.ok.hd hc) ok₁ hdf ⟨fun b o z => Heap.get?_push_of_some _ z, [], emptyD, #[], 0, by rw [List.take_zero]; rfl, Heap.get?_push_size _ rfl, ⟨rfl, rfl, rfl⟩, rfl, List.nodup_nil, .nil⟩ (fun i hh tb => let ⟨_, _, _, _, _, _, g, _⟩ := tb; Heap.lt_size g)
    (fun i h1 h2 wr hd hw tb kk => ?_) (fun i key v s1 Q1 E1 hi hrel tb _ q1 => ?_) fun h' tk tb _ => ?_
  · obtain ⟨k0, acc, o, es, ep, t1, t2, t3⟩ := tb
    refine ⟨fun b o z => kk b o (fun hb => ?_) (k0 b o z), acc, o, es, ep, t1, kk _ _ hd t2, t3⟩
    rcases hw b hb with y | y
    · cases y
    · have y2 : (s.heap.push ({ cls := .type "dict", data := .dict #[] } : Obj)).get? b = none := y
      rw [Heap.get?_push_of_some _ z] at y2
      cases y2
  · obtain ⟨k0, acc, o, es, ep, t1, t2, t3, t4, t5, t6⟩ := tb
    obtain ⟨p, hpj, x, y, rx, rxv, ry, ryv⟩ := hps i key v hrel
    obtain ⟨acc', a1, a2, a3, a4, a5⟩ := putAll_take e hpj
    rw [t1] at a1
    cases a1
    obtain ⟨kk, ek⟩ := Option.isSome_iff_exists.mp a2
    have I1 : Inv X pins σ H { s with heap := s1.heap, toks := s1.toks } := I.kept k0
    obtain ⟨ks, qk⟩ := t6.keys
    have di : DictIs X.w s1.heap s.heap.objs.size o ks es ep := ⟨t2, t3, t4, ent_of (s := { s with heap := s1.heap, toks := s1.toks }) I1 t6 qk t5⟩
    have hlen : acc.length = es.size := by rw [t6.length, Array.length_toList]
    refine set_key (by rw [Around.in1_units, Around.in1_units]; omega) (nis (s := { s with heap := s1.heap, toks := s1.toks }) I1 8 p.1 kk x key ek rx rxv) (keyN_depth ek) di (by rw [← hlen]; exact a4) fun h' o' es' ep' g1 g2 g3 g4 sb => q1 _ _ ⟨fun b ob z => ?_, putK p.1 p.2 acc, o', es', ep', a5, g1, g2, g3, ?_⟩ sb
    · exact (sb.2 b (Nat.ne_of_lt (Heap.lt_size z))).trans (k0 b ob z)
    · obtain ⟨p1, p2⟩ := put_rel t6 qk t5 ek rx rxv ry ryv g4
      exact ⟨p2, p1⟩
  · obtain ⟨k0, acc, o, es, ep, t1, t2, t3, t4, t5, t6⟩ := tb
    rw [List.take_of_length_le (by omega), e] at t1
    cases t1
    exact ⟨rfl, dct_new (s := s) (tk := tk) I hr hp (Nat.le_refl _) k0 t2 t3 t4 t5 t6 q⟩
/-- what is left to be looked at -/
theorem dctP_rest {xs : List D} {h : AH} {r : D × AH} (e : (match pairsOf xs with
      | some prs => (match putAll prs [] with
        | some kvs => some (D.ref h.length, h ++ [AO.dct kvs])
        | none => none)
      | none => none) = some r) : ∃ prs kvs, pairsOf xs = some prs ∧ putAll prs [] = some kvs ∧ r = (D.ref h.length, h ++ [AO.dct kvs]) := by
  cases e1 : pairsOf xs with
  | none => rw [e1] at e; cases e
  | some prs =>
    cases e2 : putAll prs [] with
    | none => rw [e1] at e; simp only [e2] at e; cases e
    | some kvs => rw [e1] at e; simp only [e2] at e; cases e; exact ⟨prs, kvs, rfl, e2, rfl⟩
theorem bf_dctP (hu : X.A.units + 64 < cLine) (hc : X.calm = true) : BfD X Γ (.type "dict") dctP := by
  intro pins s σ H vs us Q h n ρ ds I rv hr rd q
  cases er : dctP ds h with
  | none => rw [er] at q; exact q.elim
  | some r =>
    rw [er] at q
    match ds, rd, rv, er with
    | [], _, _, er => cases er
    | _ :: _ :: _, _, _, er => cases er
    | [d], .cons rr .nil, .cons r1 .nil, er =>
      simp only [dctP] at er
      cases e2 : vw h d with
      | tup xs =>
        simp only [e2] at er
        by_cases hup : allUP xs = true
        · rw [if_pos hup] at er
          obtain ⟨prs, kvs, e3, e4, e5⟩ := dctP_rest er
          subst e5
          obtain ⟨a, o, its, z, ws, ev, g1, g2, g3, g4, rvv, rs⟩ := tup_plain I (vw_tup hr rr e2) hup
          subst ev
          cases r1
          obtain ⟨as, ps, h1, h2, h3, h4⟩ := pair_items I e3 rs rvv
          have hit : PairItems s.heap its (fun j => as.getD j 0) ps := by
            refine ⟨by rw [← Array.length_toList, h1, List.length_map, h2], fun j k v hj => ?_⟩
            obtain ⟨a', p, q1, q2, q3, q4⟩ := h4 j k v hj
            have eg : (fun j => as.getD j 0) j = a' := by show as.getD j 0 = a'; rw [List.getD_eq_getElem?_getD, q1]; rfl
            refine ⟨?_, by rw [eg]; exact q3⟩
            rw [eg, ← Array.getElem?_toList, h1, List.getElem?_map, q1]
            rfl
          exact dctP_run hu hc I hr (PairArg.tuple a its (fun j => as.getD j 0) ps) ⟨⟨o, z, g1, g2, g3, g4⟩, hit⟩ h3 (fun j k v hj => let ⟨_, p, _, q2, _, q4⟩ := h4 j k v hj; ⟨p, q2, q4⟩) e4 q
        · rw [if_neg hup] at er; cases er
      | lst xs =>
        simp only [e2] at er
        obtain ⟨prs, kvs, e3, e4, e5⟩ := dctP_rest er
        subst e5
        obtain ⟨a, ws, ev, hs, rs⟩ := vw_seq hr rr e2
        subst ev
        cases r1
        obtain ⟨its, rvv, ⟨o, m, g1, g2, g4, g3⟩, _⟩ := I.list hs
        obtain ⟨as, ps, h1, h2, h3, h4⟩ := pair_items I e3 rs rvv
        have hit : PairItems s.heap its.toArray (fun j => as.getD j 0) ps := by
          refine ⟨by rw [List.size_toArray, h1, List.length_map, h2], fun j k v hj => ?_⟩
          obtain ⟨a', p, q1, q2, q3, q4⟩ := h4 j k v hj
          have eg : (fun j => as.getD j 0) j = a' := by show as.getD j 0 = a'; rw [List.getD_eq_getElem?_getD, q1]; rfl
          refine ⟨?_, by rw [eg]; exact q3⟩
          rw [eg, ← Array.getElem?_toList, h1, List.getElem?_map, q1]
          rfl
        exact dctP_run hu hc I hr (PairArg.list a its.toArray (fun j => as.getD j 0) ps) ⟨⟨o, m, g1, g2, g4, g3⟩, hit⟩ h3 (fun j k v hj => let ⟨_, p, _, q2, _, q4⟩ := h4 j k v hj; ⟨p, q2, q4⟩) e4 q
      | _ => simp only [e2] at er; cases er
end
end MP
set_option Elab.async false
set_option linter.all false
set_option maxRecDepth 100000
set_option maxHeartbeats 1000000
/-! MQM: dict(d), d a dict whose keys are tuples that hash apart. -/
namespace MP
open PySem PySem.Spec PyProof.Rows L2
abbrev newD : Obj := { cls := .type "dict", data := .dict #[] }
section
variable {prog : Program} {w : World} {A : Around} {Ex : Value → Shared → Prop} {s : Shared}
/-- the beginning of dict(d): what is left is the merging of d into the new, empty dict -/
theorem dict_head {o : Addr} {es : Array DictEntry} {ep : Nat} {Q : Value → Shared → Prop} (hm : s.heap.DictRaw o es ep)
    (k : wpAny (model prog w) A.in1.in1 (Builtin.Dict.mergeDict "dict.__init__" s.heap.objs.size o) (fun _ s' => Q (.ref s.heap.objs.size) s') Ex { s with heap := s.heap.push newD }) : wpAny (model prog w) A (call (.type "dict") [.ref o]) Q Ex s := by
  refine callType_codes (Q₁ := fun ob s₁ => ob = .ref s.heap.objs.size ∧ s₁ = { s with heap := s.heap.push newD }) F.kt_called_dict (F.kt_typeCall_dict_1 _) F.entry_dict_init (kt_code_dict_new _ ⟨rfl, rfl⟩) ?_
  rintro ob s₁ ⟨rfl, rfl⟩
  have tn : Shared.TypeIs { s with heap := s.heap.push newD } (.ref s.heap.objs.size) "dict" := ⟨_, Heap.get?_push_size _ rfl, rfl⟩
  obtain ⟨ob, g1, g2, g3⟩ := hm
  have to_ : Shared.TypeIs { s with heap := s.heap.push newD } (.ref o) "dict" := ⟨ob, Heap.get?_push_of_some _ g1, g2.1⟩
  refine ⟨tn, F.args_dict_init_2 _ _, ?_⟩
  unfold Builtin.«dict.__init__» Builtin.Dict.selfAndRest
  refine wpAny_bind (wpAny_bind (wpAny_notOrdered_dict tn (wpAny_pure ?_)))
  show wpAny _ _ (Builtin.Dict.updateFrom "dict.__init__" s.heap.objs.size (.ref o) [] .none) _ _ _
  unfold Builtin.Dict.updateFrom
  refine wpAny_bind (wpAny_typeOf to_ ?_)
  rw [if_neg (by decide)]
  unfold Builtin.Dict.merge Builtin.Dict.readDirectly
  refine wpAny_bind (wpAny_bind (wpAny_bind (wpAny_isInstance to_ isSubtype_dict_dict ?_)))
  simp only [Bool.not_true, Bool.false_eq_true, if_false]
  refine wpAny_bind (wpAny_specialOf to_ F.slot_dict_iter.lookup (wpAny_pure ?_))
  simp only [beq_self_eq_true, if_true]
  refine wpAny_bind (wpAny_pure (wpAny_mono k (fun _ s' q => ?_) fun _ _ z => z))
  exact wpAny_bind (wpAny_pure (wpAny_pure ⟨rfl, q⟩))
/-- the entries are taken over as they are -/
theorem dict_copy {o : Addr} {es : Array DictEntry} {ep : Nat} {Q : Value → Shared → Prop} (hs : (o == sysModules) = false) (hm : s.heap.DictRaw o es ep) (hz : es.size ≤ sizeLine) (hf : (decide (es.size ≤ 8) && es.all fun e => (keyPart e.key).isSome) = false) (ha : ∀ e ∈ es.toList, KeyApart s es e)
    (q : ∀ h' o' ep', h'.get? s.heap.objs.size = some o' → o'.ExactDict → o'.data = .dict es ep' → (∀ b ob, s.heap.get? b = some ob → h'.get? b = some ob) → Q (.ref s.heap.objs.size) { s with heap := h' }) : wpAny (model prog w) A (call (.type "dict") [.ref o]) Q Ex s := by
  refine dict_head hm ?_
  obtain ⟨ob, g1, g2, g3⟩ := hm
  have hne : s.heap.objs.size ≠ o := fun e => absurd (Heap.lt_size g1) (by rw [e]; exact Nat.lt_irrefl _)
  have g1' : (s.heap.push newD).get? o = some ob := Heap.get?_push_of_some _ g1
  have gn : (s.heap.push newD).get? s.heap.objs.size = some newD := Heap.get?_push_size _ rfl
  unfold Builtin.Dict.mergeDict
  rw [if_neg (by simpa using hne)]
  unfold Builtin.Dict.showsAll
  rw [if_neg (by rw [hs]; exact Bool.false_ne_true)]
  refine wpAny_bind (wpAny_pure (wpAny_bind (wpAny_dictEntries (s := { s with heap := s.heap.push newD }) g1' g3 ?_)))
  dsimp only
  rw [if_pos (by rw [hf]; rfl)]
  refine wpAny_bind (wpAny_dictEntries (s := { s with heap := s.heap.push newD }) gn rfl ?_)
  rw [if_pos (by rfl)]
  refine wpAny_bind (wpAny_entriesForEmpty_raw (s := { s with heap := s.heap.push newD }) g1' g3 (fun e he => ?_) ?_)
  · rcases ha e he with z | ⟨a, z1, ⟨ot, z2, z3⟩, z4⟩
    · exact .inl z
    · exact .inr ⟨a, z1, ⟨ot, Heap.get?_push_of_some _ z2, z3⟩, z4⟩
  · have old : ∀ b ob', s.heap.get? b = some ob' → ((s.heap.push newD).update s.heap.objs.size (Obj.mapDictKeys fun _ => es)).get? b = some ob' := fun b ob' e => (Heap.get?_update_ne _ _ _ _ (Nat.ne_of_lt (Heap.lt_size e))).trans (Heap.get?_push_of_some _ e)
    split
    · refine wpAny_bind (wpAny_updateDictKeysTo (s := { s with heap := s.heap.push newD }) gn rfl (wpAny_pure ?_) (Nat.le_succ_of_le hz))
      exact q _ _ (0 + 1) (Heap.get?_update_self _ gn (Obj.isFreed_of_dict (Obj.data_mapDictKeys (o := newD) rfl _))) (Obj.ExactDict.mapDictKeys (o := newD) ⟨rfl, rfl, rfl⟩ _) (Obj.data_mapDictKeys (o := newD) rfl _) old
    · rename_i hne0
      have h0 : es = #[] := Array.isEmpty_iff.mp (by simpa using hne0)
      subst h0
      exact wpAny_pure (q _ newD 0 gn ⟨rfl, rfl, rfl⟩ rfl fun b ob' e => Heap.get?_push_of_some _ e)
theorem dict_copy0 {o : Addr} {ep : Nat} {Q : Value → Shared → Prop} (hs : (o == sysModules) = false) (hm : s.heap.DictRaw o #[] ep) (q : Q (.ref s.heap.objs.size) { s with heap := s.heap.push newD }) : wpAny (model prog w) A (call (.type "dict") [.ref o]) Q Ex s := by
  refine dict_head hm ?_
  obtain ⟨ob, g1, g2, g3⟩ := hm
  have hne : s.heap.objs.size ≠ o := fun e => absurd (Heap.lt_size g1) (by rw [e]; exact Nat.lt_irrefl _)
  have g1' : (s.heap.push newD).get? o = some ob := Heap.get?_push_of_some _ g1
  unfold Builtin.Dict.mergeDict
  rw [if_neg (by simpa using hne)]
  unfold Builtin.Dict.showsAll
  rw [if_neg (by rw [hs]; exact Bool.false_ne_true)]
  refine wpAny_bind (wpAny_pure (wpAny_bind (wpAny_dictEntries (s := { s with heap := s.heap.push newD }) g1' g3 ?_)))
  dsimp only
  rw [if_neg (by simp)]
  refine wpAny_bind (wpAny_dictEpoch (s := { s with heap := s.heap.push newD }) g1' g3 (wpAny_bind (wpAny_dictEntries (s := { s with heap := s.heap.push newD }) g1' g3 (wpAny_bind ?_))))
  rw [Std.Legacy.Range.forIn_eq_forIn_range']
  simp only [Std.Legacy.Range.size]
  exact wpAny_pure (wpAny_pure q)
end
/-! ### hashes that no World has a say in -/
mutual
def hI : NestedKey → Option Int
  | .none => some (reduceHash 0xFCA86420)
  | .num i => some (hashInt i)
  | .text _ => none
  | .tup ks => match hIs ks with
    | some hs => some (reduceHash (Builtin.Tuple.tupleHashOf hs))
    | none => none
def hIs : List NestedKey → Option (List Int)
  | [] => some []
  | k :: ks => match hI k, hIs ks with
    | some x, some xs => some (x :: xs)
    | _, _ => none
end
mutual
theorem hI_ok (w : World) : ∀ {k : NestedKey} {x : Int}, hI k = some x → k.hash w = x
  | .none, x, e => by simp only [hI] at e; cases e; simp only [NestedKey.hash]
  | .num i, x, e => by simp only [hI] at e; cases e; simp only [NestedKey.hash]
  | .text z, x, e => by simp only [hI] at e; cases e
  | .tup ks, x, e => by
    simp only [hI] at e
    cases e1 : hIs ks with
    | none => rw [e1] at e; cases e
    | some hs => rw [e1] at e; cases e; simp only [NestedKey.hash]; rw [hIs_ok w e1]
theorem hIs_ok (w : World) : ∀ {ks : List NestedKey} {xs : List Int}, hIs ks = some xs → NestedKey.hashes w ks = xs
  | [], xs, e => by simp only [hIs] at e; cases e; simp only [NestedKey.hashes]
  | k :: ks, xs, e => by
    simp only [hIs] at e
    cases e1 : hI k with
    | none => rw [e1] at e; cases e
    | some y =>
      cases e2 : hIs ks with
      | none => rw [e1, e2] at e; cases e
      | some ys => rw [e1, e2] at e; cases e; simp only [NestedKey.hashes]; rw [hI_ok w e1, hIs_ok w e2]
end
def nodupI : List Int → Bool
  | [] => true
  | x :: xs => (xs.all fun y => !decide (x = y)) && nodupI xs
theorem nodupI_ok : ∀ {l : List Int}, nodupI l = true → l.Nodup
  | [], _ => List.nodup_nil
  | x :: xs, h => by
    obtain ⟨h1, h2⟩ := Bool.and_eq_true_iff.mp h
    refine List.nodup_cons.mpr ⟨fun hm => ?_, nodupI_ok h2⟩
    have z := List.all_eq_true.mp h1 x hm
    simp at z
def keyHI (p : D × D) : Option Int := match keyOf p.1 with
  | some k => hI k
  | none => none
def isTup : D → Bool
  | .tup _ => true
  | _ => false
def apartK (kvs : List (D × D)) : Bool := match allM keyHI kvs with
  | some hs => nodupI hs
  | none => false
def dctC (ds : List D) (h : AH) : Option (D × AH) := match ds with
  | [d] => match dcV h d with
    | some kvs => if (kvs.all (fun p => isTup p.1) && ((decide (kvs.length ≤ 1) || apartK kvs) && decide (kvs.length ≤ sizeLine))) = true then some (.ref h.length, h ++ [.dct kvs]) else none
    | none => none
  | _ => none
section
variable {X : Cx} {Γ : Gm} {W : WX} {pins : List (Addr × Obj)} {σ : L2.St} {H : Hp} {s : Shared} {n : Nat} {ρ : Rho} {h : AH}
theorem RelD.isTup_at {d : D} {v : V} {u : Value} (I : Inv X pins σ H s) (e : isTup d = true) (r : RD0 X Γ n ρ H d v) (rv : RelV v u) : ∃ a, u = .ref a ∧ s.TypeIs (.ref a) "tuple" := by
  cases d with
  | tup xs =>
    obtain ⟨a, vs, ea, hs, _⟩ := RelD.tup_seq r
    subst ea
    cases rv
    obtain ⟨its, _, it, _⟩ := I.tuple hs
    exact ⟨a, rfl, it.typeIs⟩
  | _ => cases e
theorem hash_at : ∀ {kvs : List (D × D)} {es : List DictEntry} {hs : List Int}, RelKs X.w X.K Γ n ρ H kvs es → allM keyHI kvs = some hs → es.map (·.hash) = hs
  | _, _, _, .nil, e => by cases e; rfl
  | _ :: _, _ :: _, hs, .cons (kd := kd) (k := k) r1 r2 hk hh r3 r4 t, e => by
    unfold allM at e
    cases e1 : keyHI (kd, _) with
    | none => rw [e1] at e; cases e
    | some x =>
      rename_i kvs es _ _ _ _
      cases e2 : allM keyHI kvs with
      | none => rw [e1, e2] at e; cases e
      | some xs =>
        rw [e1, e2] at e
        cases e
        unfold keyHI at e1
        simp only [hk] at e1
        rw [List.map_cons, hh, hI_ok X.w e1, hash_at t e2]
theorem filter_one {es : List DictEntry} {e : DictEntry} (hn : (es.map (·.hash)).Nodup) (he : e ∈ es) : (es.filter fun x => x.hash == e.hash).length ≤ 1 := filter_le_one (fun x : DictEntry => x.hash) e.hash es hn
theorem bf_dctC (hu : X.A.units + 64 < cLine) : BfD X Γ (.type "dict") dctC := by
  intro pins s σ H vs us Q h n ρ ds I rv hr rd q
  match ds, rd, rv, q with
  | [], _, _, q => exact q.elim
  | _ :: _ :: _, _, _, q => exact q.elim
  | [d], .cons r .nil, .cons r1 .nil, q =>
    simp only [dctC] at q
    cases e : dcV h d with
    | none => rw [e] at q; exact q.elim
    | some kvs =>
      simp only [e] at q
      by_cases hc : (kvs.all (fun p => isTup p.1) && ((decide (kvs.length ≤ 1) || apartK kvs) && decide (kvs.length ≤ sizeLine))) = true
      · rw [if_pos hc] at q
        simp only [Bool.and_eq_true, Bool.or_eq_true, decide_eq_true_eq, List.all_eq_true] at hc
        obtain ⟨c1, c2, c3⟩ := hc
        obtain ⟨a, o, es, ep, ev, da⟩ := dcV_at I hr r e
        subst ev
        cases r1
        have raw : s.heap.DictRaw a es ep := ⟨o, da.get, da.ex, da.dat⟩
        have hl : kvs.length = es.size := by rw [da.rel.length, Array.length_toList]
        have hp : H s.heap.objs.size = none := I.hok.fresh (Nat.le_refl _)
        by_cases h0 : es = #[]
        · subst h0
          have k0 : kvs = [] := List.length_eq_zero_iff.mp (by simpa using hl)
          subst k0
          exact dict_copy0 da.sys raw (dct_new (s := s) (tk := s.toks) I hr hp (Nat.le_refl _) (fun b ob z => Heap.get?_push_of_some _ z) (Heap.get?_push_size _ rfl) ⟨rfl, rfl, rfl⟩ rfl da.nd .nil q)
        · have keys : ∀ en ∈ es.toList, ∃ b, en.key = .ref b ∧ s.TypeIs (.ref b) "tuple" := fun en hen => by
            obtain ⟨j, hj⟩ := List.mem_iff_getElem?.mp hen
            obtain ⟨kd, vd, kv, vv, g1, g2, g3, _⟩ := da.rel.at' hj
            exact RelD.isTup_at I (c1 _ (List.mem_of_getElem? g1)) g2 g3
          refine dict_copy da.sys raw (by rw [← hl]; exact c3) ?_ (fun en hen => ?_) fun h' o' ep' k1 k2 k3 k4 => dct_new (s := s) (tk := s.toks) I hr hp (Nat.le_refl _) k4 k1 k2 k3 da.nd da.rel q
          · have hall : (es.all fun e => (keyPart e.key).isSome) = false := by
              cases hh : (es.all fun e => (keyPart e.key).isSome) with
              | false => rfl
              | true =>
                have hne : es.toList ≠ [] := fun z => h0 (by rw [← Array.toArray_toList (xs := es), z])
                obtain ⟨en, hen⟩ := List.exists_mem_of_ne_nil _ hne
                obtain ⟨b, eb, _⟩ := keys en hen
                rw [← Array.all_toList] at hh
                have z := List.all_eq_true.mp hh en hen
                rw [eb] at z
                cases z
            rw [hall, Bool.and_false]
          · obtain ⟨b, eb, tb⟩ := keys en hen
            refine .inr ⟨b, eb, tb, ?_⟩
            rw [← Array.length_toList, Array.toList_filter]
            rcases c2 with c2 | c2
            · exact Nat.le_trans (List.length_filter_le _ _) (by rw [Array.length_toList, ← hl]; exact c2)
            · unfold apartK at c2
              cases e1 : allM keyHI kvs with
              | none => rw [e1] at c2; cases c2
              | some hs =>
                rw [e1] at c2
                refine filter_one ?_ hen
                rw [hash_at da.rel e1]
                exact nodupI_ok c2
      · rw [if_neg hc] at q; exact q.elim
/-- dict(e): of a dict, of pairs -/
def dctA (ds : List D) (h : AH) : Option (D × AH) := match ds with
  | [d] => match dcV h d with
    | some _ => dctC [d] h
    | none => dctP [d] h
  | _ => none
theorem bf_dctA (hu : X.A.units + 64 < cLine) (hc : X.calm = true) : BfD X Γ (.type "dict") dctA := by
  intro pins s σ H vs us Q h n ρ ds I rv hr rd q
  match ds, rd, rv, q with
  | [], _, _, q => exact q.elim
  | _ :: _ :: _, _, _, q => exact q.elim
  | [d], rd, rv, q =>
    simp only [dctA] at q
    cases e : dcV h d with
    | none => rw [e] at q; exact bf_dctP hu hc pins s σ H vs us Q h n ρ [d] I rv hr rd q
    | some kvs => rw [e] at q; exact bf_dctC hu pins s σ H vs us Q h n ρ [d] I rv hr rd q
end
end MP
set_option Elab.async false
set_option linter.all false
set_option maxRecDepth 100000
set_option maxHeartbeats 1000000
/-! MQN: == and != of own objects. -/
namespace MP
open PySem PySem.Spec PyProof.Rows L2
section
variable {prog : Program} {w : World} {A : Around} {E : Value → Shared → Prop} {s : Shared} {K : PySem.W.Frag} {x C f : Addr} {ox : Obj} {od : Option Obj} {b tb : Value}
/-- x != b by object.__ne__, over an own __eq__ that gives a bool -/
theorem ne_run {Q : Value → Shared → Prop} (hu : A.units + 8 < cLine) (X : K.In s.heap) (I : PySem.W.InstAt s.heap x ox C od) (hb : PySem.W.Looks (model prog w) s.heap (typeOf b) tb) (hn : PySem.W.notFirst K C tb = true)
    (hne : PySem.W.findIn K (.ref C) "__ne__" = some (some (.builtin "object.__ne__"))) (hm : PySem.W.mroIn K C (.type "object") = some true) (hs : PySem.W.findIn K (.ref C) "__eq__" = some (some (.ref f))) (hf : PySem.W.isFn K (.ref f) = true)
    (h : wpAny (model prog w) A.in1 (call (.ref f) [.ref x, b]) (fun v s' => ∃ r, v = .bool r ∧ Q (.bool (!r)) s') E s) : wpAny (model prog w) A (richCompare .NotEq (.ref x) b) Q E s := by
  have one : wpAny (model prog w) A (tryCompare (.ref x) "__ne__" b) (fun r s' => ∃ v, r = some v ∧ Q v s') E s := by
    have cl : wpAny (model prog w) A (call (.builtin "object.__ne__") [.ref x, b]) (fun v s' => ∃ r, v = .bool r ∧ Q v s') E s := by
      refine wpAny_call (codeAny_call_builtin (id := "object.__ne__") (by decide +kernel) F.cmpEntry_ne (PySem.W.check_slot (i := "object.__ne__") (owner := "object") (n := "__ne__") F.cmpKind_ne F.cmpSplit_ne (I.type.andThen (PySem.W.looks_mroIn X hm)) (F.cmpArgs_ne _ _) ?_))
      unfold Builtin.«object.__ne__»
      refine wpAny_bind (m := slotArgs "__ne__" 1 _) (wpAny_pure ?_)
      refine wpAny_bind (m := cRoomFor _ _) (wpAny_cRoomFor (by rw [Around.in1_units]; omega) ?_)
      refine wpAny_bind (m := callSpecialIfBound? (.ref x) (Str.ofString "__eq__") _) (PySem.W.ifBound_K X I hs hf (wpAny_mono h (fun v s' z => ?_) fun _ _ z => z))
      obtain ⟨r, rfl, q⟩ := z
      refine wpAny_bind (wpAny_truthy_bool ?_)
      exact wpAny_pure ⟨_, rfl, q⟩
    unfold tryCompare
    refine wpAny_bind ?_
    simp only [callSpecialIfBound?, bindSpecialIfBound?]
    refine wpAny_holding (wpAny_bind (wpAny_bind (wpAny_bind (I.type.here ((PySem.W.looks_findIn X hne).here ?_)))))
    refine wpAny_bind (wpAny_askSetting (wpAny_ite ?_))
    have bs : ∀ self, bindSpecial (.builtin "object.__ne__") self = pure (.builtin "object.__ne__", [self]) := fun self => by
      first | exact F.slot_object_ne.bind self | (unfold bindSpecial; rfl) | kernel_rfl
    have fin : wpAny (model prog w) A (call (.builtin "object.__ne__") ([.ref x] ++ [b]) >>= fun v => pure (some v)) (fun r s' => wpAny (model prog w) A (match r with
        | some .notImplemented | none => pure none
        | some v => pure (some v)) (fun r s' => ∃ v, r = some v ∧ Q v s') E s') E s := wpAny_bind (wpAny_mono cl (fun v s' z => by
      obtain ⟨r, rfl, q⟩ := z
      exact wpAny_pure (wpAny_pure ⟨_, rfl, q⟩)) fun _ _ z => z)
    split
    · exact wpAny_bind ((PySem.W.Looks.of_pure (bs _)).here (wpAny_pure (by exact fin)))
    · exact wpAny_tryCatch (wpAny_bind ((PySem.W.Looks.of_pure (bs _)).here (wpAny_pure (by exact fin))))
  unfold richCompare
  simp only [oneThing_ref]
  refine wpAny_holding (wpAny_bind (wpAny_cRoomFor (by omega) ?_))
  refine wpAny_bind (I.type.here (wpAny_bind (hb.here ?_)))
  have last : wpAny (model prog w) A (tryCompare (.ref x) "__ne__" b) (fun r s' => ∃ v, r = some v ∧ Q v s') E s := one
  by_cases q : (Value.ref C != tb) = true
  · rw [if_pos q]
    have e : PySem.W.subIn K tb (.ref C) = some false := by
      rcases Bool.or_eq_true_iff.mp hn with e | e
      · rw [beq_iff_eq.mp e] at q; simp at q
      · exact beq_iff_eq.mp e
    refine wpAny_bind ((PySem.W.looks_subIn X e).here ?_)
    simp only [Bool.false_eq_true, if_false]
    refine wpAny_bind (wpAny_mono last (fun r s' z => ?_) fun _ _ z => z)
    obtain ⟨v, rfl, q⟩ := z
    exact wpAny_pure q
  · rw [if_neg q]
    refine wpAny_bind (wpAny_pure ?_)
    simp only [Bool.false_eq_true, if_false]
    refine wpAny_bind (wpAny_mono last (fun r s' z => ?_) fun _ _ z => z)
    obtain ⟨v, rfl, q⟩ := z
    exact wpAny_pure q
end
/-- what is known of an own class, so that its objects may be compared -/
structure EqC (K : PySem.W.Frag) (C : Addr) : Prop where
  own : OwnC K C
  ne : PySem.W.findIn K (.ref C) "__ne__" = some (some (.builtin "object.__ne__"))
def eqCB (K : PySem.W.Frag) (c : Str) : Bool := ownB K c && He.eqO (PySem.W.findIn K (.ref (He.ga K c)) "__ne__") (some (some (.builtin "object.__ne__")))
theorem eqCB_ok {K : PySem.W.Frag} {c : Str} (h : eqCB K c = true) : EqC K (He.ga K c) := ⟨ownB_ok (He.ba h).1, He.eqO_ok (He.ba h).2⟩
def eqOwn (tab : Str → Option Fn) (a b : D) (h : AH) : Option (Bool × AH) := match frzR a h with
  | some (a', h1) => match frzR b h1 with
    | some (b', h2) => match a', b' with
      | .obj c fs, .obj c' gs => match decide (c = c') with
        | true => match tab c with
          | some φ => match φ [.obj c fs, .obj c' gs] with
            | some (.ok (.bl r)) => some (r, h2)
            | _ => none
          | none => none
        | false => none
      | _, _ => none
    | none => none
  | none => none
def isObj (d : D) : Bool := match d with
  | .obj _ _ => true
  | _ => false
/-- ==, of own objects too -/
def opEqO (tab : Str → Option Fn) : D → D → AH → Option (D × AH) := fun a b h => match isObj a with
  | true => match eqOwn tab a b h with
    | some (r, h1) => some (.bl r, h1)
    | none => none
  | false => opEq a b h
def opNeO (tab : Str → Option Fn) : D → D → AH → Option (D × AH) := fun a b h => match isObj a with
  | true => match eqOwn tab a b h with
    | some (r, h1) => some (.bl (!r), h1)
    | none => none
  | false => opNe a b h
section
variable {X : Cx} {Γ : Gm} {W : WX} {pins : List (Addr × Obj)} {σ : L2.St} {H : Hp} {s : Shared} {n : Nat} {ρ : Rho} {h : AH} {pos : Pos}
/-- the own __eq__ runs -/
theorem eqOwn_run {tab : Str → Option Fn} {k : Nat} {a b : D} {x y : V} {u v : Value} {r : Bool} {h2 : AH} (hr0 : Room (k + 1) X.A) (ht : ∀ c φ, tab c = some φ → MtR X.prog X.w X.K X.mg X.base Γ c "__eq__" ["self", "other"] k φ) (I : Inv X pins σ H s) (hr : HR X Γ n ρ H h) (ra : RD X Γ n ρ H a x) (rb : RD X Γ n ρ H b y) (rx : RelV x u) (ry : RelV y v)
    (e : eqOwn tab a b h = some (r, h2)) : ∃ c φ xa xb f dx dy fs gs, tab c = some φ ∧ u = .ref xa ∧ v = .ref xb ∧ H xa = some (.ins (Γ c) dx fs) ∧ H xb = some (.ins (Γ c) dy gs) ∧ Meth X.K (Γ c) "__eq__" f ∧
      ∀ {Q : Value → Shared → Prop} {E2 : Value → Shared → Prop} (A : Around), Room k A → Env0 X.prog X.w X.K X.mg X.base A X.stack s H → (∀ s' H' n' ρ', Inv X pins σ H' s' → Ext n ρ H n' ρ' H' → HR X Γ n' ρ' H' h2 → Q (.bool r) s') → wpAny (model X.prog X.w) A (call (.ref f) [.ref xa, .ref xb]) Q E2 s := by
  unfold eqOwn at e
  cases e1 : frzR a h with
  | none => rw [e1] at e; cases e
  | some p1 =>
    obtain ⟨a', h1⟩ := p1
    simp only [e1] at e
    cases e2 : frzR b h1 with
    | none => rw [e2] at e; cases e
    | some p2 =>
      obtain ⟨b', h2'⟩ := p2
      simp only [e2] at e
      obtain ⟨ρ1, x1, hr1, r1⟩ := frzR_ok hr ra e1
      obtain ⟨ρ2, x2, hr2, r2⟩ := frzR_ok hr1 (rb.mono x1) e2
      have r1 := r1.monoP x2
      cases a' with
      | obj c fs =>
        cases b' with
        | obj c' gs =>
          simp only at e
          cases hcc : decide (c = c') with
          | false => rw [hcc] at e; cases e
          | true =>
            rw [hcc] at e
            have ec := of_decide_eq_true hcc
            subst ec
            simp only at e
            cases e3 : tab c with
            | none => rw [e3] at e; cases e
            | some φ =>
              simp only [e3] at e
              cases e4 : φ [.obj c fs, .obj c gs] with
              | none => rw [e4] at e; cases e
              | some o =>
                rw [e4] at e
                cases o with
                | exc c2 f2 => cases e
                | ok d =>
                  cases d with
                  | bl b0 =>
                    cases e
                    obtain ⟨xa, dx, fvs, ex, g1, _⟩ := r1.obj_at
                    obtain ⟨xb, dy, gvs, ey, g2, _⟩ := r2.obj_at
                    subst ex ey
                    cases rx
                    cases ry
                    obtain ⟨_, f, fd, me, bd, F⟩ := ht c φ e3
                    refine ⟨c, φ, xa, xb, f, dx, dy, fvs, gvs, e3, rfl, rfl, g1, g2, me, fun {Q E2} A hrm e0 q => ?_⟩
                    have rd : RelDs X.w X.K Γ 0 (lend n ρ2) H 0 [.obj c fs, .obj c gs] [.ref xa, .ref xb] := RelDs.keep0 (fun b o hb f _ => ⟨hb, lend_free.mpr f⟩) (.cons r1 (.cons r2 .nil))
                    have sp : spP X.w X.K Γ 2 φ [.ref xa, .ref xb] H (fun v H' => v = .bl r ∧ Ext n ρ2 H n ρ2 H' ∧ HR X Γ n ρ2 H' h2) (fun _ _ _ => False) := by
                      refine ⟨rfl, _, lend n ρ2, lend_live hr2, lend_tab hr2.tab, rd, ?_⟩
                      rw [e4]
                      intro v H' x3 t3 rv
                      cases rv
                      exact ⟨rfl, lend_ext x3, lend_back hr2 x3 t3⟩
                    refine wpAny_call (codeAny_mono (F.run A X.stack s H ⟨[.ref xa, .ref xb], []⟩ [.ref xa, .ref xb] [.ref xa, .ref xb] _ _ hrm e0 (bd s [.ref xa, .ref xb] I.kIn rfl) (.cons rfl (.cons rfl .nil)) sp) fun rr s' hq => ?_)
                    cases rr with
                    | error er =>
                      obtain ⟨_, _, _, _, _, _, _, _, _, _, _, _, z⟩ := hq
                      exact z.elim
                    | ok fl =>
                      cases fl with
                      | next => exact hq.elim
                      | brk => exact hq.elim
                      | cont => exact hq.elim
                      | ret w' =>
                        obtain ⟨v, H', I3, rv, ev, x4, hr4⟩ := I.after hq
                        subst ev
                        cases rv
                        exact q s' H' n ρ2 I3 ((x1.trans x2).trans x4) hr4
                  | _ => cases e
        | _ => cases e
      | _ => cases b' <;> cases e
theorem eqO_ok {tab : Str → Option Fn} {k : Nat} (hr : Room (k + 1) X.A) (ht : ∀ c φ, tab c = some φ → MtR X.prog X.w X.K X.mg X.base Γ c "__eq__" ["self", "other"] k φ) : OpR X (compareOp .Eq) (rD X Γ (opEqO tab)) := by
  intro pins s σ H x y v u Q I rx ry ⟨h, n, ρ, a, b, hr0, ra, rb, q⟩
  unfold opEqO at q
  cases ho : isObj a with
  | false => rw [ho] at q; exact eq_ok hr.units pins s σ H x y v u Q I rx ry ⟨h, n, ρ, a, b, hr0, ra, rb, q⟩
  | true =>
    rw [ho] at q
    simp only at q
    cases e : eqOwn tab a b h with
    | none => rw [e] at q; exact q.elim
    | some p =>
      obtain ⟨r, h2⟩ := p
      rw [e] at q
      obtain ⟨c, φ, xa, xb, f, dx, dy, fs, gs, ht', rfl, rfl, g1, g2, me, run⟩ := eqOwn_run hr ht I hr0 ra rb rx ry e
      obtain ⟨mA, J, _⟩ := ins_get I.hok g1
      obtain ⟨mB, J', _⟩ := ins_get I.hok g2
      obtain ⟨od, J, _⟩ := J.look
      obtain ⟨od', J', _⟩ := J'.look
      obtain ⟨m, hF⟩ := I.fr
      refine PySem.W.cmp_K (op := .Eq) (tb := .ref (Γ c)) hr.units0 hF I.ok.mod.kin J J'.type (by simp [PySem.W.notFirst]) me.at_ me.fn (run X.A (hr.mono (Nat.le_succ _)) I.env0 fun s' H' n' ρ' I' x' hr' => ?_)
      exact ⟨.bl r, H', I', rfl, q _ n' ρ' H' x' hr' (.bl r)⟩
theorem neO_ok {tab : Str → Option Fn} {k : Nat} (hr : Room (k + 1) X.A) (hc : ∀ c φ, tab c = some φ → EqC X.K (Γ c)) (ht : ∀ c φ, tab c = some φ → MtR X.prog X.w X.K X.mg X.base Γ c "__eq__" ["self", "other"] k φ) : OpR X (compareOp .NotEq) (rD X Γ (opNeO tab)) := by
  intro pins s σ H x y v u Q I rx ry ⟨h, n, ρ, a, b, hr0, ra, rb, q⟩
  unfold opNeO at q
  cases ho : isObj a with
  | false => rw [ho] at q; exact ne_ok hr.units pins s σ H x y v u Q I rx ry ⟨h, n, ρ, a, b, hr0, ra, rb, q⟩
  | true =>
    rw [ho] at q
    simp only at q
    cases e : eqOwn tab a b h with
    | none => rw [e] at q; exact q.elim
    | some p =>
      obtain ⟨r, h2⟩ := p
      rw [e] at q
      obtain ⟨c, φ, xa, xb, f, dx, dy, fs, gs, ht', rfl, rfl, g1, g2, me, run⟩ := eqOwn_run hr ht I hr0 ra rb rx ry e
      obtain ⟨mA, J, _⟩ := ins_get I.hok g1
      obtain ⟨mB, J', _⟩ := ins_get I.hok g2
      obtain ⟨od, J, _⟩ := J.look
      obtain ⟨od', J', _⟩ := J'.look
      have ec := hc c φ ht'
      refine ne_run (tb := .ref (Γ c)) (by have := hr.units; omega) I.kIn J J'.type (by simp [PySem.W.notFirst]) ec.ne ec.own.mr me.at_ me.fn (run X.A.in1 hr.in1 I.env0.in1 fun s' H' n' ρ' I' x' hr' => ⟨r, rfl, ?_⟩)
      exact ⟨.bl (!r), H', I', rfl, q _ n' ρ' H' x' hr' (.bl (!r))⟩
end
end MP
set_option Elab.async false
set_option linter.all false
set_option maxRecDepth 100000
set_option maxHeartbeats 400000
/-! MQO: what a law's texts share: defs picked out of the program, the facts in one bundle. -/
namespace MP
open PySem PySem.Spec PyProof.Rows L2
def dfl0 : He.DefD := { at_ := ("", none), name := "", qual := "", params := ⟨[], [], none, [], [], none, []⟩, body := [], scope := ⟨.function, [], false, false, []⟩ }
/-- the def that is the i-th statement of the top, found as x -/
def topD (P : Program) (i : Nat) (x : Str) (dfl : List He.Dv) (kwd : List (Str × He.Dv)) : He.DefD := match P.main.body[i]? with
  | some (.FunctionDef n a b _ _ _ sc _ _ _) => { at_ := (x, none), name := n, qual := n, params := a, body := b, scope := sc, dfl := dfl, kwd := kwd }
  | _ => dfl0
/-- the j-th statement of the class that is the i-th statement of the top -/
def topM (P : Program) (i j : Nat) (c : Str) : He.DefD := match P.main.body[i]? with
  | some (.ClassDef n _ _ body _ _ _ _ _ _ _) => match body[j]? with
    | some (.FunctionDef m a b _ _ _ sc _ _ _) => { at_ := (c, some m), name := m, qual := n ++ "." ++ m, params := a, body := b, scope := sc }
    | _ => dfl0
  | _ => dfl0
/-- what is known at a law's call -/
structure Fx (hk : HkD) (w : World) (K : PySem.W.Frag) (mg : Str → Option Value) (base : Heap) : Prop where
  kin : K.In base
  ns : base.Ns mainGlobals mg
  says : ∃ h, SaysM hk w h K
  tb : ∀ p ∈ hk.tf, LamX.TabB base mg (He.cT K p).1 (He.cT K p).2
section
variable {hk : HkD} {w : World} {K : PySem.W.Frag} {mg : Str → Option Value} {base : Heap}
theorem Fx.fact (F : Fx hk w K mg base) (i : Nat) {f : He.Fa} (e : hk.fa[i]? = some f) : f.ok K = true := let ⟨_, c⟩ := F.says; c.fact i e
theorem Fx.glo (F : Fx hk w K mg base) (i : Nat) {x : Str} (e : hk.fa[i]? = some (.glo x)) : mg x = some (.ref (He.ga K x)) := He.glo_ok F.kin F.ns (F.fact i e)
theorem Fx.free (F : Fx hk w K mg base) (i : Nat) {x : Str} (e : hk.fa[i]? = some (.free x)) : mg x = none := He.free_ok F.kin F.ns (F.fact i e)
theorem Fx.def_ (F : Fx hk w K mg base) (i : Nat) {d : He.DefD} (e : hk.fn[i]? = some d) : ∃ fd, FunD K d.name d.qual d.params d.body d.scope (d.dvs K) (d.kws K) (He.fAd K d.at_) fd := let ⟨_, c⟩ := F.says; c.def_ i e
theorem Fx.prop (F : Fx hk w K mg base) (i : Nat) {p : PropD} (e : hk.pd[i]? = some p) : PropOf K (He.ga K p.c) p.f (pAd K p.c p.f) (gAd K p.c p.f) ∧ ∃ fd, FunD K p.d.name p.d.qual p.d.params p.d.body p.d.scope (p.d.dvs K) (p.d.kws K) (gAd K p.c p.f) fd := let ⟨_, c⟩ := F.says; c.prop i e
theorem Fx.ini (F : Fx hk w K mg base) (i : Nat) {x : XiD} (e : hk.xi[i]? = some x) : fnWx K (He.ma K (He.ga K x.c) "__init__") = x.val := let ⟨_, c⟩ := F.says; c.ini i e
theorem Fx.ex (F : Fx hk w K mg base) (i : Nat) {b : Bool} (e : (hk.ex K)[i]? = some b) : b = true := let ⟨_, c⟩ := F.says; c.exAt i e
theorem Fx.tab (F : Fx hk w K mg base) (i : Nat) {t : He.Tab} (e : hk.ts[i]? = some t) : ∃ es n, KDict K w (t.1 K) es n := let ⟨_, c⟩ := F.says; c.tab i e
end
end MP
set_option Elab.async false
set_option linter.all false
set_option maxRecDepth 100000
set_option maxHeartbeats 400000
/-! MQP: == and != of dicts. -/
namespace MP
open PySem PySem.Spec PyProof.Rows L2
def eqKvs (h : AH) (kb : List (D × D)) : List (D × D) → Option Bool
  | [] => some true
  | (k, v) :: r => match lookK k kb with
    | none => some false
    | some v2 => match eqD h v v2 with
      | some true => eqKvs h kb r
      | some false => some false
      | none => none
def eqDct (h : AH) (ka kb : List (D × D)) : Option Bool := match ka.length == kb.length with
  | true => eqKvs h kb ka
  | false => some false
def eqDD (h : AH) (a b : D) : Option Bool := match dcV h a, dcV h b with
  | some ka, some kb => eqDct h ka kb
  | _, _ => eqD h a b
def opEqD : D → D → AH → Option (D × AH) := fun a b h => opB (eqDD h a b) h
section
variable {X : Cx} {Γ : Gm} {W : WX} {pins : List (Addr × Obj)} {σ : L2.St} {H : Hp} {s : Shared} {n : Nat} {ρ : Rho} {h : AH} {pos : Pos}
/-- values of dicts, compared -/
theorem eq_vals {A : Around} {vd vd2 : D} {x y : V} {u v : Value} {r : Bool} (hu : A.units + 32 < cLine) (I : Inv X pins σ H s) (hr : HR X Γ n ρ H h) (ra : RD X Γ n ρ H vd x) (rb : RD X Γ n ρ H vd2 y) (rx : RelV x u) (ry : RelV y v) (e : eqD h vd vd2 = some r) : PySem.SeqAt.EqP X.prog X.w A s u v r := by
  unfold eqD at e
  cases e1 : toD dp (vw h vd) with
  | none => rw [e1] at e; cases e
  | some p =>
    cases e2 : toD dp (vw h vd2) with
    | none => rw [e1, e2] at e; cases e
    | some p' =>
      rw [e1, e2] at e
      cases e
      obtain ⟨as, r1⟩ := reads_vw I hr e1 ra rx
      obtain ⟨bs, r2⟩ := reads_vw I hr e2 rb ry
      have d1 : p.depth ≤ 16 := toD_depth e1
      have : min p.depth p'.depth ≤ p.depth := Nat.min_le_left _ _
      exact (PySem.SeqAt.eqAt_plain p p' A s u v as bs r1 r2 (toD_plain e1) (toD_plain e2) (by omega)).eqP
theorem same_pairs {nm : String} {A : Around} {E : Value → Shared → Prop} {a b : Addr} {oa ob : Obj} {es es' : Array DictEntry} {ep ep' : Nat} {ka kb : List (D × D)} {r : Bool} {Q : Bool → Shared → Prop} (hu : A.units + 32 < cLine) (I : Inv X pins σ H s) (hr : HR X Γ n ρ H h)
    (da : DAt X Γ n ρ H s.heap a oa es ep ka) (db : DAt X Γ n ρ H s.heap b ob es' ep' kb) (e : eqDct h ka kb = some r) (q : Q r s) : wpAny (model X.prog X.w) A (Builtin.Dict.samePairs nm a b) Q E s := by
  have hla : ka.length = es.size := by rw [da.rel.length]; exact Array.length_toList
  have hlb : kb.length = es'.size := by rw [db.rel.length]; exact Array.length_toList
  unfold Builtin.Dict.samePairs Builtin.Dict.showsAll
  rw [if_neg (show ¬ (a == sysModules) = true by rw [da.sys]; exact Bool.false_ne_true), if_neg (show ¬ (b == sysModules) = true by rw [db.sys]; exact Bool.false_ne_true)]
  refine wpAny_bind (wpAny_pure (wpAny_bind (wpAny_pure ?_)))
  refine wpAny_bind (wpAny_dictEntries da.get da.dat ?_)
  dsimp only
  refine wpAny_bind (wpAny_dictEntries db.get db.dat ?_)
  unfold eqDct at e
  cases hsz : (ka.length == kb.length) with
  | false =>
    rw [hsz] at e
    cases e
    have ne : ¬ es.size = es'.size := by rw [← hla, ← hlb]; simpa using hsz
    rw [if_pos (by simpa using ne)]
    exact wpAny_bind (wpAny_rule (wpAny_pure q))
  | true =>
    rw [hsz] at e
    have eq : es.size = es'.size := by rw [← hla, ← hlb]; exact eq_of_beq hsz
    rw [if_neg (by rw [eq]; simp)]
    refine wpAny_bind (wpAny_dictEpoch da.get da.dat ?_)
    refine wpAny_bind ?_
    rw [Std.Legacy.Range.forIn_eq_forIn_range']
    simp only [Std.Legacy.Range.size, Nat.sub_zero, Nat.add_sub_cancel, Nat.div_one]
    obtain ⟨ks, kq, di⟩ := db.is I
    refine wpAny_forIn_list _
      (fun rest q s' => s' = s ∧ q = (none, ()) ∧ ∃ i, rest = List.range' i (es.size - i) ∧ i ≤ es.size ∧ eqKvs h kb (ka.drop i) = some r)
      _ ?_ ?_ _ _ ⟨rfl, rfl, 0, by simp, Nat.zero_le _, e⟩
    · rintro x rest q' s' ⟨rfl, rfl, i, hrr, hi, hpre⟩
      have hlt : i < es.size := by
        rcases Nat.lt_or_ge i es.size with h | h
        · exact h
        · rw [Nat.sub_eq_zero_of_le h] at hrr; simp at hrr
      obtain ⟨rfl, hrest⟩ : x = i ∧ rest = List.range' (i + 1) (es.size - (i + 1)) := by
        have e : es.size - i = (es.size - (i + 1)) + 1 := by omega
        rw [e, List.range'_succ] at hrr
        injection hrr with h1 h2
        exact ⟨h1, h2⟩
      refine wpAny_bind (wpAny_dictEntries da.get da.dat ?_)
      rw [Array.getElem?_eq_getElem hlt]
      have hlt' : x < ka.length := by rw [hla]; exact hlt
      obtain ⟨kd, vd, hkv⟩ : ∃ k v, ka[x] = (k, v) := ⟨_, _, rfl⟩
      have hdrop : ka.drop x = (kd, vd) :: ka.drop (x + 1) := by rw [← hkv]; exact List.drop_eq_getElem_cons hlt'
      rw [hdrop] at hpre
      have hat : ka[x]? = some (kd, vd) := by rw [List.getElem?_eq_getElem hlt', hkv]
      obtain ⟨kv, vv, k, en, g1, g2, g3, g4, g5, g6, g7⟩ := da.rel.at_ hat
      rw [Array.getElem?_toList, Array.getElem?_eq_getElem hlt] at g1
      have g1' := Option.some.inj g1
      have ni := nis I 8 kd k kv en.key g4 g2 g3
      have kdp := keyN_depth g4
      show wpAny _ _ (holding [es[x].key, es[x].val] _ >>= _) _ _ _
      rw [g1', g5]
      refine wpAny_bind (wpAny_holding (wpAny_bind (find_key (ks := ks) (by omega) ni kdp db.get db.dat di.ent (fun hn => ?_) (fun j hj => ?_))))
      · have lk := lookK_none kq g4 hn
        simp only [eqKvs, lk] at hpre
        cases hpre
        refine wpAny_pure ?_
        show wpAny _ _ (if (!false) = true then _ else _) _ _ _
        rw [if_pos (by decide)]
        exact wpAny_pure (wpAny_pure q)
      · obtain ⟨k2, v2, h1, h2⟩ := kq.at_ hj
        obtain ⟨kv', vv', k', en', f1, f2, f3, f4, f5, f6, f7⟩ := db.rel.at_ h1
        rw [Array.getElem?_toList] at f1
        have lk := lookK_some kq (kq.nd db.nd) g4 hj h1
        simp only [eqKvs, lk] at hpre
        refine wpAny_bind (wpAny_dictEntries db.get db.dat ?_)
        rw [f1]
        cases e5 : eqD h vd v2 with
        | none => rw [e5] at hpre; cases hpre
        | some r2 =>
          rw [e5] at hpre
          have ev := eq_vals (A := A) hu I hr g6.up f6.up g7 f7 e5
          refine wpAny_holding (ev _ _ ?_)
          cases r2 with
          | false =>
            cases hpre
            show wpAny _ _ (if (!false) = true then _ else _) _ _ _
            rw [if_pos (by decide)]
            exact wpAny_pure (wpAny_pure q)
          | true =>
            show wpAny _ _ (if (!true) = true then _ else _) _ _ _
            rw [if_neg (by decide)]
            refine wpAny_bind (wpAny_dictEpoch da.get da.dat ?_)
            rw [if_neg (by simp)]
            exact wpAny_pure ⟨rfl, rfl, x + 1, hrest, hlt, hpre⟩
    · rintro q' s' ⟨rfl, rfl, i, hrr, hi, hpre⟩
      have hin : i = es.size := by
        rcases Nat.lt_or_ge i es.size with h | h
        · have e : es.size - i = (es.size - (i + 1)) + 1 := by omega
          rw [e, List.range'_succ] at hrr; exact nomatch hrr
        · exact Nat.le_antisymm hi h
      refine wpAny_pure ?_
      rw [hin, ← hla, List.drop_length] at hpre
      cases hpre
      exact q
theorem eqDct_run {E : Value → Shared → Prop} {A : Around} {a b : Addr} {oa ob : Obj} {es es' : Array DictEntry} {ep ep' : Nat} {ka kb : List (D × D)} {r : Bool} {Q : Value → Shared → Prop} (hu : A.units + 64 < cLine) (I : Inv X pins σ H s) (hr : HR X Γ n ρ H h)
    (da : DAt X Γ n ρ H s.heap a oa es ep ka) (db : DAt X Γ n ρ H s.heap b ob es' ep' kb) (e : eqDct h ka kb = some r) (q : Q (.bool r) s) : wpAny (model X.prog X.w) A (compareOp .Eq (.ref a) (.ref b)) Q E s := by
  have ta : s.TypeIs (.ref a) "dict" := ⟨oa, da.get, da.ex.1⟩
  have tb : s.TypeIs (.ref b) "dict" := ⟨ob, db.get, db.ex.1⟩
  refine wpAny_richCompare_same_room (op := .Eq) ta tb PySem.F.slot_dict_eq (wpAny_call_entry PySem.F.slot_dict_eq ta PySem.F.entry_dict_eq ?_ (PySem.F.args_dict_eq_2 _ _)) (by omega)
  show wpAny _ _ (Builtin.Dict.dictSlotArgs "__eq__" ⟨[.ref a, .ref b], []⟩ >>= _) _ _ s
  refine wpAny_bind ?_
  unfold Builtin.Dict.dictSlotArgs
  refine wpAny_bind (wpAny_notOrdered_dict ta ?_)
  show wpAny _ _ (pure (Value.ref a, Value.ref b)) _ _ s
  refine wpAny_pure ?_
  refine wpAny_bind (wpAny_isInstance (T := "dict") tb PySem.F.sub_dict_dict ?_)
  simp only [Bool.not_true, Bool.false_eq_true, if_false]
  refine wpAny_bind (wpAny_pure (wpAny_bind (wpAny_pure ?_)))
  refine wpAny_bind (same_pairs (A := A.in1) (by show A.units + 1 + 32 < _; omega) I hr da db e ?_)
  refine wpAny_pure ⟨_, rfl, ?_, ?_⟩
  · exact fun x => nomatch x
  · simpa using q
theorem eqD_ok (hu : X.A.units + 64 < cLine) : OpR X (compareOp .Eq) (rD X Γ opEqD) := by
  intro pins s σ H x y v u Q I rx ry ⟨h, n, ρ, a, b, hr, ra, rb, q⟩
  unfold opEqD eqDD at q
  cases e1 : dcV h a with
  | none =>
    have q' : PostO X Γ n ρ H (opEq a b h) Q := by rw [e1] at q; exact q
    exact eq_ok hu pins s σ H x y v u Q I rx ry ⟨h, n, ρ, a, b, hr, ra, rb, q'⟩
  | some ka =>
    cases e2 : dcV h b with
    | none =>
      have q' : PostO X Γ n ρ H (opEq a b h) Q := by rw [e1, e2] at q; exact q
      exact eq_ok hu pins s σ H x y v u Q I rx ry ⟨h, n, ρ, a, b, hr, ra, rb, q'⟩
    | some kb =>
      rw [e1, e2] at q
      simp only at q
      cases e3 : eqDct h ka kb with
      | none => rw [e3] at q; exact q.elim
      | some r =>
        rw [e3] at q
        obtain ⟨d1, o1, es1, ep1, rfl, da⟩ := dcV_at I hr ra e1
        obtain ⟨d2, o2, es2, ep2, rfl, db⟩ := dcV_at I hr rb e2
        cases rx
        cases ry
        exact eqDct_run hu I hr da db e3 ⟨.bl r, H, I, rfl, postB hr q⟩
theorem xeqD {a b : Expr} {fa fb : Ev} {W : WX} {k : Nat} (hr : Room k X.A) (ha : DE X Γ W a fa) (hb : DE X Γ W b fb) (hm : behindInMarks .Eq b = false := by rfl) : DE X Γ W (.Compare a [.Eq] [b] pos) (evBin opEqD fa fb) := de_cmp (eqD_ok hr.units) ha hb hm
theorem teqD {a b : Expr} {fa fb : Ev} {W : WX} {k : Nat} (hr : Room k X.A) (ha : DE X Γ W a fa) (hb : DE X Γ W b fb) (hm : behindInMarks .Eq b = false := by rfl) : DT X Γ W (.Compare a [.Eq] [b] pos) (tvOf (evBin opEqD fa fb)) := dt_cmp (eqD_ok hr.units) ha hb hm
end
end MP
set_option Elab.async false
set_option linter.all false
set_option maxRecDepth 100000
set_option maxHeartbeats 400000
/-! MQQ: short forms for printed texts. -/
namespace MP
open PySem PySem.Spec PyProof.Rows L2
section
variable {X : Cx} {Γ : Gm} {W : WX} {pos : Pos} {a b : Expr} {fa fb : Ev}
theorem xeqO {tab : Str → Option Fn} {k : Nat} (hr : Room (k + 1) X.A) (ht : ∀ c φ, tab c = some φ → MtR X.prog X.w X.K X.mg X.base Γ c "__eq__" ["self", "other"] k φ) (ha : DE X Γ W a fa) (hb : DE X Γ W b fb) (hm : behindInMarks .Eq b = false := by rfl) : DE X Γ W (.Compare a [.Eq] [b] pos) (evBin (opEqO tab) fa fb) := de_cmp (eqO_ok hr ht) ha hb hm
theorem teqO {tab : Str → Option Fn} {k : Nat} (hr : Room (k + 1) X.A) (ht : ∀ c φ, tab c = some φ → MtR X.prog X.w X.K X.mg X.base Γ c "__eq__" ["self", "other"] k φ) (ha : DE X Γ W a fa) (hb : DE X Γ W b fb) (hm : behindInMarks .Eq b = false := by rfl) : DT X Γ W (.Compare a [.Eq] [b] pos) (tvOf (evBin (opEqO tab) fa fb)) := dt_cmp (eqO_ok hr ht) ha hb hm
theorem xneO {tab : Str → Option Fn} {k : Nat} (hr : Room (k + 1) X.A) (hc : ∀ c φ, tab c = some φ → EqC X.K (Γ c)) (ht : ∀ c φ, tab c = some φ → MtR X.prog X.w X.K X.mg X.base Γ c "__eq__" ["self", "other"] k φ) (ha : DE X Γ W a fa) (hb : DE X Γ W b fb) (hm : behindInMarks .NotEq b = false := by rfl) : DE X Γ W (.Compare a [.NotEq] [b] pos) (evBin (opNeO tab) fa fb) := de_cmp (neO_ok hr hc ht) ha hb hm
theorem tneO {tab : Str → Option Fn} {k : Nat} (hr : Room (k + 1) X.A) (hc : ∀ c φ, tab c = some φ → EqC X.K (Γ c)) (ht : ∀ c φ, tab c = some φ → MtR X.prog X.w X.K X.mg X.base Γ c "__eq__" ["self", "other"] k φ) (ha : DE X Γ W a fa) (hb : DE X Γ W b fb) (hm : behindInMarks .NotEq b = false := by rfl) : DT X Γ W (.Compare a [.NotEq] [b] pos) (tvOf (evBin (opNeO tab) fa fb)) := dt_cmp (neO_ok hr hc ht) ha hb hm
theorem tabE1 {K : PySem.W.Frag} {c : Str} {φ : Fn} (r : EqC K (Γ c)) : ∀ c' φ', tabF [(c, φ)] c' = some φ' → EqC K (Γ c') := fun c' φ' e => by
  unfold tabF at e
  simp only [List.lookup] at e
  cases q : (c' == c) with
  | true => rw [q] at e; cases e; rw [eq_of_beq q]; exact r
  | false => rw [q] at e; cases e
end
theorem pa_list : PlainAttrs TyN.list.nm := PySem.F.plainAttrs_list
theorem pa_dict : PlainAttrs TyN.dict.nm := PySem.F.plainAttrs_dict
theorem sl_append : Slot TyN.list.nm "append" "list.append" := PySem.F.slot_list_append
theorem sl_extend : Slot TyN.list.nm "extend" "list.extend" := PySem.F.slot_list_extend
theorem sl_pop : Slot TyN.list.nm "pop" "list.pop" := PySem.F.slot_list_pop
theorem sl_get : Slot TyN.dict.nm "get" "dict.get" := PySem.F.slot_dict_get
theorem sl_setdefault : Slot TyN.dict.nm "setdefault" "dict.setdefault" := PySem.F.slot_dict_setdefault
theorem codeAt {K : PySem.W.Frag} {x qual : Str} {params : Arguments} {body : List Stmt} {scope : Scope} {dvs : List V} {kws : List (Str × V)} {p : He.Defn} {fd : FuncData} (D : FunD K x qual params body scope dvs kws (He.fAd K p) fd) : fd.code = .ref (He.cT K p).1 := by
  obtain ⟨oc, od, dV, kV, doc, pm, an, cdv, ct, osl, rfl, lk, hcd, _, _⟩ := D.ex
  obtain ⟨c, rfl⟩ := He.codeIn_ref hcd
  rw [show (He.cT K p).1 = He.codeOf K p from rfl, He.codeOf_eq (c := c) lk rfl]
def isaCk2 (K : PySem.W.Frag) (own : List Str) (us : List Value) (isa : Tag → Option Bool) : Bool :=
  (btags.all fun a => decide (PySem.W.kitAny K (.type a) us = isa (.b a))) && (own.all fun c => ownB K c && decide (PySem.W.kitAny K (.ref (He.ga K c)) us = isa (.o c)))
theorem isaB_ok2 {X : Cx} {Γ : Gm} {own : List Str} {us : List Value} {T : List String} (hΓ : ∀ c, Γ.ad c = He.ga X.K c) (h : isaCk2 X.K own us (isaB T own) = true) : IsaOks X Γ us (isaB T own) := by
  obtain ⟨h1, h2⟩ := He.ba h
  refine ⟨fun c b e => ?_, fun t b e => ?_⟩
  · have z := List.all_eq_true.mp h2 c (isaB_o e)
    rw [show Γ.ad c = _ from hΓ c]
    exact ownB_ok (He.ba z).1
  · cases t with
    | b a => rw [← e]; exact of_decide_eq_true (List.all_eq_true.mp h1 a (isaB_b e))
    | o c =>
      have z := List.all_eq_true.mp h2 c (isaB_o e)
      rw [← e]
      show PySem.W.kitAny X.K (.ref (Γ.ad c)) us = _
      rw [hΓ c]
      exact of_decide_eq_true (He.ba z).2
theorem xisi2 {X : Cx} {Γ : Gm} {W : WX} {pos : Pos} {e : Expr} {p q1 q2 tpos : Pos} {k : Nat} {x y : Str} {f : Ev} {isa : Tag → Option Bool} {T1 T2 : String} (ok : IsaOks X Γ [.type T1, .type T2] isa) (hm : X.mg "isinstance" = none) (h1 : X.mg x = none) (h2 : X.mg y = none) (he : DE X Γ W e f) (hv1 : bootBuiltins x = some (.type T1) := by rfl) (hv2 : bootBuiltins y = some (.type T2) := by rfl)
    (hg : Gl X "isinstance" := by rfl) (hg1 : Gl X x := by rfl) (hg2 : Gl X y := by rfl) (hn1 : x ≠ "__name__" := by decide) (hdb1 : (x == ("__debug__" : Str)) = false := by decide) (hn2 : y ≠ "__name__" := by decide) (hdb2 : (y == ("__debug__" : Str)) = false := by decide)
    (hs1 : starEach [e, .Tuple [.Name x q1, .Name y q2] k tpos] X.env = (false, eval e X.env) :: starEach [.Tuple [.Name x q1, .Name y q2] k tpos] X.env := by rfl) (hs2 : starEach [.Tuple [.Name x q1, .Name y q2] k tpos] X.env = (false, eval (.Tuple [.Name x q1, .Name y q2] k tpos) X.env) :: starEach [] X.env := by rfl) (hpl : (backTo pos (starEach [.Tuple [.Name x q1, .Name y q2] k tpos] X.env)).any (·.1) = false := by rfl)
    (hs3 : starEach [.Name x q1, .Name y q2] X.env = (false, eval (.Name x q1) X.env) :: starEach [.Name y q2] X.env := by rfl) (hs4 : starEach [.Name y q2] X.env = (false, eval (.Name y q2) X.env) :: starEach [] X.env := by rfl) :
    DE X Γ W (.Call (.Name "isinstance" p) [e, .Tuple [.Name x q1, .Name y q2] k tpos] [] pos) (evIsi isa f) :=
  de_isiT (cs := [.ty T1, .ty T2]) ok (.cons (.ty T1) (.cons (.ty T2) .nil)) (show 2 ≤ sizeLine by decide) hg hm he (pa_cons (pe_bltn (v := .ty T1) hg1 h1 hv1 rfl hn1 hdb1) (pa_cons (pe_bltn (v := .ty T2) hg2 h2 hv2 rfl hn2 hdb2) pa_nil hs4) hs3) (fun σ H Q q => q) hs1 hs2 hpl
theorem Fx.dct {hk : HkD} {w : World} {K : PySem.W.Frag} {mg : Str → Option Value} {base : Heap} (F : Fx hk w K mg base) (i j : Nat) {x : Str} {kvs : List (Str × D)} {t : He.Tab} (e : (hk.ex K)[i]? = some (dctK K x kvs)) (e2 : hk.ts[j]? = some t) (ht : t.1 K = He.ga K x) : ∀ (Γ : Gm) (n : Nat) (ρ : Rho) (H : Hp) (m : Nat), RelD w K Γ n ρ H m (.dct (strD kvs)) (.ref (He.ga K x)) := by
  obtain ⟨es, m, z⟩ := F.tab j e2
  rw [ht] at z
  exact dctK_ok (F.ex i e) z
theorem us0 {us : List Value} {Q : List Value → Prop} (hl : us.length = 0) (h : Q []) : Q us := by
  cases us with
  | nil => exact h
  | cons a r => cases hl
theorem us1 {us : List Value} {Q : List Value → Prop} (hl : us.length = 1) (h : ∀ a, Q [a]) : Q us := by
  cases us with
  | nil => cases hl
  | cons a r => exact us0 (Q := fun r => Q (a :: r)) (Nat.succ.inj hl) (h a)
theorem us2 {us : List Value} {Q : List Value → Prop} (hl : us.length = 2) (h : ∀ a b, Q [a, b]) : Q us := by
  cases us with
  | nil => cases hl
  | cons a r => exact us1 (Q := fun r => Q (a :: r)) (Nat.succ.inj hl) (h a)
theorem us3 {us : List Value} {Q : List Value → Prop} (hl : us.length = 3) (h : ∀ a b c, Q [a, b, c]) : Q us := by
  cases us with
  | nil => cases hl
  | cons a r => exact us2 (Q := fun r => Q (a :: r)) (Nat.succ.inj hl) (h a)
theorem us4 {us : List Value} {Q : List Value → Prop} (hl : us.length = 4) (h : ∀ a b c d, Q [a, b, c, d]) : Q us := by
  cases us with
  | nil => cases hl
  | cons a r => exact us3 (Q := fun r => Q (a :: r)) (Nat.succ.inj hl) (h a)
theorem us5 {us : List Value} {Q : List Value → Prop} (hl : us.length = 5) (h : ∀ a b c d e, Q [a, b, c, d, e]) : Q us := by
  cases us with
  | nil => cases hl
  | cons a r => exact us4 (Q := fun r => Q (a :: r)) (Nat.succ.inj hl) (h a)
theorem us6 {us : List Value} {Q : List Value → Prop} (hl : us.length = 6) (h : ∀ a b c d e f, Q [a, b, c, d, e, f]) : Q us := by
  cases us with
  | nil => cases hl
  | cons a r => exact us5 (Q := fun r => Q (a :: r)) (Nat.succ.inj hl) (h a)
/-- a, b = x, y where one of the names is a cell: the tuple is made and unpacked -/
theorem sparC {X : Cx} {Γ : Gm} {W : WX} {pos : Pos} {a b : Expr} (i j : Nat) {x y : Str} {px py pt : Pos} {kt k2 : Nat} {pt2 : Pos} {g : Env' → AH → Res (List D)} (hN : X.N.Nodup) (ha : DA X Γ W [a, b] g) (hc : X.calm = true := by rfl) (hi : X.N[i]? = some x := by rfl) (hj : X.N[j]? = some y := by rfl)
    (hx : Loc X.env.scope x := by first | exact .inl rfl | exact .inr rfl) (hy : Loc X.env.scope y := by first | exact .inl rfl | exact .inr rfl) (hfx : X.fn x = true ∨ X.env.scope.names.lookup x = some .local := by first | exact .inl rfl | exact .inr rfl) (hfy : X.fn y = true ∨ X.env.scope.names.lookup y = some .local := by first | exact .inl rfl | exact .inr rfl)
    (hw : swappedStores [.Tuple [.Name x px, .Name y py] kt pt] (.Tuple [a, b] k2 pt2) X.env = pure none := by rfl) (hs : swapsWithSole [.Tuple [.Name x px, .Name y py] kt pt] (.Tuple [a, b] k2 pt2) pos.line X.env = pure false := by rfl)
    (h1 : (assignEach [.Tuple [.Name x px, .Name y py] kt pt] X.env).map (·.2) = [assign (.Tuple [.Name x px, .Name y py] kt pt) X.env] := by rfl) (h2 : (assignEach [.Name x px, .Name y py] X.env).map (·.2) = assign (.Name x px) X.env :: (assignEach [.Name y py] X.env).map (·.2) := by rfl) (h3 : (assignEach [.Name y py] X.env).map (·.2) = assign (.Name y py) X.env :: (assignEach [] X.env).map (·.2) := by rfl)
    (hn : (assignEach [.Name x px, .Name y py] X.env).length = 2 := by rfl) (hst : (assignEach [.Name x px, .Name y py] X.env).findIdx? (·.1) = none := by rfl) :
    DS X Γ W (.Assign [.Tuple [.Name x px, .Name y py] kt pt] (.Tuple [a, b] k2 pt2) pos) (svPar i j g) :=
  PS.imp (ps_asg (pe_tup ha) (pg_tup hc (pgs_cons (pg_name hN hi hx hfx) (pgs_cons (pg_name hN hj hy hfy) pgs_nil h3) h2) hn hst) hs hw h1) fun Z σ H ⟨E, h, n, ρ, er, hr, q⟩ => ⟨E, h, n, ρ, er, hr, (PostS.expr (R := RelTs X.w X.K Γ) er q).imp fun vs H1 ⟨ds, h1, n1, ρ1, y, hr1, rd, q1⟩ => by
    match ds, rd, q1 with
    | [], _, q1 => exact q1.elim
    | [_], _, q1 => exact q1.elim
    | [d1, d2], .cons r1 (.cons r2 .nil), q1 =>
      exact ⟨show 2 ≤ sizeLine by decide, fun p hp => ⟨p, _, rfl, .inl (.inl upd_same), rfl, _, _, rfl, _, _, rfl, rfl, q1 _ n1 ρ1 _ (Ext.new hp) (hr1.new hp) ((((er.mono y).set r1).set r2).mono (Ext.new hp))⟩⟩
    | _ :: _ :: _ :: _, _, q1 => exact q1.elim⟩
end MP
set_option Elab.async false
set_option linter.all false
set_option maxRecDepth 100000
set_option maxHeartbeats 400000
/-! MQR: a law whose def is walked keeps its promise at the head's heap. -/
namespace MP
open PySem PySem.Spec PyProof.Rows L2
theorem law_at {hk : HkD} {l : PySem.W.OpenLaw} {w : World} {K : PySem.W.Frag} {h : Heap} {mg : Str → Option Value} {k n : Nat} {x : Str} {fa : Addr} {φ : Fn} {Γ : Gm} {fd : FuncData} (hK : K.In h) (says : SaysM hk w h K) (hT : ∀ p ∈ Γ.T, ∃ q ∈ hk.tf, p.1 = (He.cT K q).2)
    (hb : ∀ (s : Shared) (u : Value), BindsTo s fd ⟨[u], []⟩ [(x, u)]) (hφ : ∀ ns : List Int, ns.length ≤ n → (∀ z ∈ ns, Builtin.Int.intBits z ≤ 1048576) → φ [.scr ns] = some (.ok (.bl true)))
    (hF : ∀ base, Fx hk w K mg base → FnOk l.prog w K mg base (L2.CX l.prog w) k fa fd [x] (spP w K Γ 1 φ)) : LamX.LawAtS l w K (L2.CX l.prog w) k n x mg fa h := by
  refine ⟨fd, hk.tf.map (He.cT K), spP w K Γ 1 φ, fun p hp => ?_, fun p hp => ?_, fun p hp => ?_, hb, fun H a ns hl hz hT0 hS => ?_, fun base kin ns tb => hF base ⟨kin, ns, ⟨h, says⟩, fun p hp => tb _ (List.mem_map_of_mem hp)⟩⟩
  · obtain ⟨q, hq, rfl⟩ := List.mem_map.mp hp
    exact says.x.empty q hq
  · obtain ⟨q, hq, rfl⟩ := List.mem_map.mp hp
    exact says.x.out q hq
  · obtain ⟨q, hq, rfl⟩ := List.mem_map.mp hp
    exact PySem.W.codeHd_of_K hK (says.x.hd q hq)
  · have hf : ∀ b, Free 0 ⟨fun _ => 0, fun _ => False, fun _ => False⟩ b := fun b => ⟨fun z => z, fun i hi => absurd hi (Nat.not_lt_zero _)⟩
    refine ⟨rfl, [.scr ns], ⟨fun _ => 0, fun _ => False, fun _ => False⟩, fun b z => z.elim, fun p hp => ?_, .cons (.scr ?_) .nil, ?_⟩
    · obtain ⟨q, hq, e⟩ := hT p hp
      refine ⟨#[], ?_, hf _, ?_, fun pos cv e => ?_⟩
      · rw [e]; exact hT0 _ (List.mem_map_of_mem hq)
      · exact True.intro
      · cases e
    · rcases hS with z | z
      · exact .inl ⟨z, hf _⟩
      · exact .inr z
    · rw [hφ ns hl hz]
      intro v H' _ _ r
      cases r
      rfl
end MP
set_option Elab.async false
set_option linter.all false
set_option maxRecDepth 100000
set_option maxHeartbeats 400000
/-! MQS: the head's Hook, looking at few objects, each list made at once. -/
namespace MP
open PySem PySem.Spec PyProof.Rows L2
def refsM (o : Obj) : List Addr := match o.data with
  | .func fd => He.refV fd.code ++ (He.refV fd.defaults ++ (He.refV fd.kwdefaults ++ fd.closure.map (·.2)))
  | .cls cd => [cd.ns]
  | .dict es _ => es.toList.flatMap fun e => He.refV e.val
  | .seq its _ => its.toList.flatMap He.refV
  | .fields vs => match o.cls with
    | .type "property" => vs.toList.flatMap He.refV
    | _ => []
  | _ => []
def growM (g : Addr → Option Obj) (as : List Addr) : List Addr := as.flatMap fun a => match g a with
  | some o => refsM o
  | none => []
def forceL {α : Type} : List Addr → (List Addr → α) → α
  | [], k => k []
  | a :: r, k => HandSHeadRun.frNat a fun a0 => forceL r fun r0 => k (a0 :: r0)
theorem forceL_eq {α : Type} : ∀ (l : List Addr) (k : List Addr → α), forceL l k = k l
  | [], k => rfl
  | a :: r, k => by
    unfold forceL
    rw [HandSHeadRun.frNat_eq, forceL_eq r]
def withK {α : Type} (g : Addr → Option Obj) : List Addr → (PySem.W.Frag → α) → α
  | [], k => k []
  | a :: r, k => match g a with
    | some o => match He.emptyTab o with
      | true => withK g r k
      | false => withK g r fun K => k ((a, o) :: K)
    | none => withK g r k
theorem withK_eq {α : Type} {g : Addr → Option Obj} : ∀ (l : List Addr) (k : PySem.W.Frag → α), withK g l k = k (He.frT g l)
  | [], k => rfl
  | a :: r, k => by
    unfold withK
    cases e : g a with
    | none =>
      simp only
      rw [withK_eq r]
      simp [He.frT, He.frG, e]
    | some o =>
      simp only
      cases e2 : He.emptyTab o with
      | true =>
        simp only
        rw [withK_eq r]
        simp [He.frT, He.frG, e, e2]
      | false =>
        simp only
        rw [withK_eq r]
        simp [He.frT, He.frG, e, e2]
def asM (g : Addr → Option Obj) : List Addr :=
  let G1 := growM g [mainGlobals]
  let G2 := growM g G1
  let G3 := growM g G2
  let G4 := growM g G3
  cStatics :: mainGlobals :: (G1 ++ (G2 ++ (G3 ++ (G4 ++ growM g G4))))
def obsK (k : HkD) (g : Addr → Option Obj) (K : PySem.W.Frag) : AlM := ((He.obsT k.fa k.fn k.ts K, k.exB K && He.tabsB g k.tf K), wsK k K)
def obsN (k : HkD) (g : Addr → Option Obj) : AlM :=
  forceL (growM g [mainGlobals]) fun G1 => forceL (growM g G1) fun G2 => forceL (growM g G2) fun G3 => forceL (growM g G3) fun G4 => forceL (growM g G4) fun G5 => withK g (cStatics :: mainGlobals :: (G1 ++ (G2 ++ (G3 ++ (G4 ++ G5))))) fun K => obsK k g K
theorem obsN_eqK {k : HkD} {g : Addr → Option Obj} : obsN k g = obsK k g (He.frT g (asM g)) := by
  unfold obsN asM
  rw [forceL_eq, forceL_eq, forceL_eq, forceL_eq, forceL_eq, withK_eq]
theorem saysK_of {k : HkD} {w : World} {h : Heap} {as : List Addr} (e : obsK k h.get? (He.frT h.get? as) = valM k w) : SaysM k w h (He.frT h.get? as) := by
  have e0 : ((He.obsT k.fa k.fn k.ts (He.frT h.get? as), k.exB (He.frT h.get? as) && He.tabsB h.get? k.tf (He.frT h.get? as)) : He.AlX) = He.valX k.fn k.ts w := congrArg (fun z : AlM => z.1) e
  obtain ⟨h1, h2⟩ := He.ba (show (k.exB (He.frT h.get? as) && He.tabsB h.get? k.tf (He.frT h.get? as)) = true from congrArg (fun z : He.AlX => z.2) e0)
  have key : ∀ p ∈ k.tf, PySem.W.codeHdIn (He.frT h.get? as) (He.cT (He.frT h.get? as) p).1 (He.cT (He.frT h.get? as) p).2 = true ∧ ∃ o, h.get? (He.cT (He.frT h.get? as) p).2 = some o ∧ He.emptyTab o = true := fun p hp => by
    obtain ⟨a, b⟩ := He.ba (List.all_eq_true.mp h2 p hp)
    cases q : h.get? (He.cT (He.frT h.get? as) p).2 with
    | none => rw [q] at b; cases b
    | some o => rw [q] at b; exact ⟨a, o, rfl, b⟩
  refine ⟨⟨congrArg (fun z : He.AlX => z.1) e0, h1, fun p hp => (key p hp).1, fun p hp => ?_, fun p hp => ?_⟩, congrArg (fun z : AlM => z.2) e⟩
  · obtain ⟨_, o, q, z⟩ := key p hp
    exact He.frT_none q z
  · obtain ⟨_, o, q, z⟩ := key p hp
    rw [q, He.emptyTab_eq z]
def hookN (k : HkD) : PySem.W.Hook where
  α := AlM
  obs := fun s => obsN k s.heap.get?
  val := fun w => valM k w
  says := fun w h => ∃ K : PySem.W.Frag, K.In h ∧ SaysM k w h K
  of := fun _ _ e => ⟨_, He.frT_in, saysK_of (obsN_eqK.symm.trans e)⟩
  keeps := fun _ _ _ ⟨K, hK, c⟩ k => ⟨K, PySem.W.Frag.In.keeps hK k, ⟨⟨c.x.t, c.x.more, c.x.hd, c.x.out, fun p hp => k _ _ (c.x.empty p hp)⟩, c.p⟩⟩
theorem obsN_eq {k : HkD} {g : Addr → Option Obj} {s : Shared} (h : ∀ a, g a = s.heap.get? a) : obsN k g = (hookN k).obs s := by
  have e : g = s.heap.get? := funext h
  rw [e] <;> rfl
end MP
set_option Elab.async false
set_option linter.all false
set_option maxRecDepth 100000
set_option maxHeartbeats 1000000
/-! MQT: try with several clauses, some with a name. -/
namespace MP
open PySem PySem.Spec PyProof.Rows L2
/-- what a suite does to the exception at a -/
abbrev Sx := Addr → Value → Option Addr → TS
/-- the ends of a suite whose name (slot i) is unbound behind it -/
def endsN (i : Nat) (Z : Ends) : Ends := { nx := fun σ H => Z.nx (σ.set i none) H, rt := Z.rt, bk := fun σ H => Z.bk (σ.set i none) H, ct := fun σ H => Z.ct (σ.set i none) H }
/-- a clause: its class, the name's slot if it has one, its suite -/
structure Cl where
  c : Value
  i : Option Nat
  t : Sx
def Cl.wish (k : Cl) (a : Addr) (cls : Value) (d : Option Addr) (Z : Ends) (σ : L2.St) (H : Hp) : Prop := match k.i with
  | none => k.t a cls d Z σ H
  | some i => k.t a cls d (endsN i Z) (σ.set i (some (.ref a))) H
def wMix (K : PySem.W.Frag) (Wo : WX) (Z : Ends) : List Cl → WX
  | [] => Wo
  | k :: r => fun cls d σ H => ∃ b, PySem.W.exmOne K cls k.c = some b ∧ (b = true → ∀ a, H a = none → k.wish a cls d Z σ H) ∧ (b = false → wMix K Wo Z r cls d σ H)
def SuOk (X : Cx) (su : List Stmt) (t : Sx) : Prop := ∀ (a : Addr) (oe : Obj) (cls : Value) (d : Option Addr) (pn : List (Addr × Obj)), Zc cls d oe → (∃ vs, oe.data = .fields vs) → PSs (X.suite a ((a, oe) :: pn)) su (t a cls d)
inductive ClsOk (X : Cx) : List ExceptHandler → List Cl → Prop
  | nil : ClsOk X [] []
  | plain {x : Str} {c : Value} {t : Sx} {b₀ : Stmt} {su : List Stmt} {np p : Pos} {hds : List ExceptHandler} {l : List Cl} (hc : Names X x c) (hsu : SuOk X (b₀ :: su) t) (r : ClsOk X hds l) : ClsOk X (.ExceptHandler (some (.Name x np)) none (b₀ :: su) p :: hds) (⟨c, none, t⟩ :: l)
  | named {x n : Str} {i : Nat} {c : Value} {t : Sx} {b₀ : Stmt} {su : List Stmt} {np p : Pos} {hds : List ExceptHandler} {l : List Cl} (hc : Names X x c) (hi : X.N[i]? = some n) (hln : X.env.kindOf n = some .local) (hsu : SuOk X (b₀ :: su) t) (r : ClsOk X hds l) : ClsOk X (.ExceptHandler (some (.Name x np)) (some n) (b₀ :: su) p :: hds) (⟨c, some i, t⟩ :: l)
section
variable {X : Cx} {body : List Stmt} {h₀ : ExceptHandler} {hds : List ExceptHandler} {l : List Cl} {pos : Pos} {tb : WX → TS} {Wo : WX}
theorem ps_try_mix (hs : X.stack = X.env :: X.outer) (hf : X.env.frame = some X.env.locals) (hN : X.N.Nodup) (tk : Takes X Wo)
    (hb : ∀ (W : WX) (pn : List (Addr × Obj)) (xe : Value → Shared → Prop), Takes (X.tr pn xe) W → PassesOwn (model X.prog X.w) X.A X.env xe → PSs (X.tr pn xe) body (tb W))
    (hh : ClsOk X (h₀ :: hds) l) : PS X (.Try body (h₀ :: hds) [] [] pos) (fun Z σ H => tb (wMix X.K Wo Z l) Z σ H) := by
  refine ⟨fun pins s σ H D I h => ?_⟩
  have ok := I.ok
  have hfr : X.A.frames = some (X.env :: X.outer) := by rw [ok.frames, hs]
  refine wpAny_Try_except ?_
  have key : ∀ u s', XE (X.tr (X.pn ++ pins) fun e s₁ => wpAny (model X.prog X.w) X.A (noteFrame e X.env) (fun _ s₂ => wpAny (model X.prog X.w) X.A (setFlight e none) (fun _ s₃ => wpAny (model X.prog X.w) X.A (handleBy e X.env (h₀ :: hds)) (SP X pins D) X.xe s₃) X.xe s₂) X.xe s₁) (wMix X.K Wo D l) u s' →
      wpAny (model X.prog X.w) X.A (noteFrame u X.env) (fun _ s₂ => wpAny (model X.prog X.w) X.A (setFlight u none) (fun _ s₃ => wpAny (model X.prog X.w) X.A (handleBy u X.env (h₀ :: hds)) (SP X pins D) X.xe s₃) X.xe s₂) X.xe s' := by
    intro u s' xx
    obtain ⟨a, B, sI, pins', σ', H', cls, d, rfl, J', nb, up, sky, na, os, ag, w⟩ := xx
    have J : Inv X pins σ' H' sI := J'.ofTry ok
    have sky' : Sky B (X.env :: X.outer) a (Zc cls d) X.env.locals s'.heap := by rw [← hs]; exact sky
    refine Sky.land Zc.steady hfr hf sky' fun h3 fl3 up3 => ?_
    have J3 : Inv X pins σ' H' { s' with heap := h3 } := J.landed nb fl3.1 (up.trans up3) os ag
    obtain ⟨oe3, vs3, he3, hz3, hd3⟩ := fl3.there
    have nfr : a ∉ frs (X.env :: X.outer) := fun hm => by
      obtain ⟨_, o', e', hnf⟩ := fl3.2.2.1.mem hm
      rw [he3] at e'; cases e'
      exact hnf _ hd3
    have nL : a ≠ X.env.locals := fun z => nfr (List.mem_filterMap.mpr ⟨X.env, List.mem_cons_self, by rw [hf, z]⟩)
    have nF : a ∉ X.fs := fun hm => by
      obtain ⟨e, he, q⟩ := List.mem_filterMap.mp hm
      exact nfr (List.mem_filterMap.mpr ⟨e, List.mem_cons_of_mem _ he, q⟩)
    have S3 := J3.suite he3 hd3 na nL nF
    have LT : PySem.W.Looks (model X.prog X.w) h3 (typeOf (.ref a)) cls := fun A Q E s k q => wpAny_typeOf_ref (k _ _ he3) (by rw [hz3.1]; exact q)
    have test : ∀ {x : Str} {np : Pos} {c : Value} {Q : Value → Shared → Prop} {E : Value → Shared → Prop}, Names X x c → Q c { s' with heap := h3 } → wpAny (model X.prog X.w) (X.A.mark (some (.ref a))) (eval (.Name x np) X.env) Q E { s' with heap := h3 } := fun {x np c Q E} hc q => by
      obtain ⟨hg, hdbg, hm | ⟨hm, hv, hnn⟩⟩ := hc
      · exact ld_glob (X := X.suite a ((a, oe3) :: (X.pn ++ pins))) S3 hg hm q hdbg
      · exact ld_blt (X := X.suite a ((a, oe3) :: (X.pn ++ pins))) S3 hg hm hv q hnn hdbg
    have go : ∀ {hds' : List ExceptHandler} {l' : List Cl}, ClsOk X hds' l' → wMix X.K Wo D l' cls d σ' H' → wpAny (model X.prog X.w) X.A (handleBy (.ref a) X.env hds') (SP X pins D) X.xe { s' with heap := h3 } := by
      intro hds' l' hk
      induction hk with
      | nil =>
        intro w
        refine wpAny_handleBy_nil ?_
        obtain ⟨k1, k2, k3, oe, vs, T, oT, ts', he, hz, hd, h1, hr⟩ := id fl3
        unfold PySem.passOn
        refine wpAny_bind (wpAny_field he hd h1 ?_)
        rw [if_neg (show ¬ ((Value.ref T == Value.none) = true) from by simp)]
        have fin : wpAny (model X.prog X.w) X.A (setFlight (.ref a) X.env.frame) (fun _ s4 => wpAny (model X.prog X.w) X.A (throw (.ref a) : Sem Flow) (SP X pins D) X.xe s4) X.xe { s' with heap := h3 } := by
          rw [hf]
          refine HandSPX.setFlight_upZ fl3 fun h4 hh4 up4 => wpAny_throw (tk _ _ ?_)
          exact ⟨a, B, sI, pins, σ', H', cls, d, rfl, J, nb, (up.trans up3).trans up4, .inr (.inr (by rw [hs]; exact hh4)), na, os, ag, w⟩
        first
          | exact wpAny_bind (wpAny_pure (wpAny_bind fin))
          | exact wpAny_bind fin
      | @plain x c t b₀ su np p hds2 l2 hc hsu r ih =>
        intro w
        obtain ⟨b, hb1, hyes, hno⟩ := w
        refine wpAny_handleBy_cons (codeAny_handlers_test ?_) (by intro q; cases q)
        refine test hc ((PySem.W.exm_one (M := model X.prog X.w) J3.kIn LT hb1).here ?_)
        cases b with
        | false => exact ih (hno rfl)
        | true =>
          refine codeAny_handlers_suite (HandSPX.lands_againZ fl3 fun h4 fl4 up4 => ?_)
          have J4 : Inv X pins σ' H' { s' with heap := h4 } := J.landed nb fl4.1 ((up.trans up3).trans up4) os ag
          obtain ⟨oe4, vs4, he4, hz4, hd4⟩ := fl4.there
          refine wpAny_mono ((hsu a oe4 cls d (X.pn ++ pins) hz4 ⟨_, hd4⟩).run [] _ _ H' _ (J4.suite he4 hd4 na nL nF) (hyes rfl a na)) (fun f s6 hsp => ?_) (fun _ _ z => False.elim z)
          cases f with
          | next => obtain ⟨σ6, H6, S6, q6⟩ := hsp; exact ⟨_, _, S6.unsuite ok, q6⟩
          | brk => obtain ⟨σ6, H6, S6, q6⟩ := hsp; exact ⟨_, _, S6.unsuite ok, q6⟩
          | cont => obtain ⟨σ6, H6, S6, q6⟩ := hsp; exact ⟨_, _, S6.unsuite ok, q6⟩
          | ret u => obtain ⟨v6, σ6, H6, S6, r6, q6⟩ := hsp; exact ⟨_, _, _, S6.unsuite ok, r6, q6⟩
      | @named x n i c t b₀ su np p hds2 l2 hc hi hln hsu r ih =>
        intro w
        obtain ⟨b, hb1, hyes, hno⟩ := w
        refine wpAny_handleBy_cons (codeAny_handlers_test ?_) (by intro q; cases q)
        refine test hc ((PySem.W.exm_one (M := model X.prog X.w) J3.kIn LT hb1).here ?_)
        cases b with
        | false => exact ih (hno rfl)
        | true =>
          refine codeAny_handlers_suite_as (HandSPX.lands_againZ fl3 fun h4 fl4 up4 => ?_)
          have J4 : Inv X pins σ' H' { s' with heap := h4 } := J.landed nb fl4.1 ((up.trans up3).trans up4) os ag
          obtain ⟨oe4, vs4, he4, hz4, hd4⟩ := fl4.there
          refine store_ok (X := X.suite a ((a, oe4) :: (X.pn ++ pins))) (v := .ref a) (J4.suite he4 hd4 na nL nF) hN hi (.inl hln) rfl (fun s5 S5 => ?_) (.inr hln)
          refine wpAny_mono ((hsu a oe4 cls d (X.pn ++ pins) hz4 ⟨_, hd4⟩).run [] s5 _ H' _ S5 (hyes rfl a na)) (fun f s6 hsp => ?_) (fun _ _ z => False.elim z)
          have fin : ∀ {σ6 : L2.St} {H6 : Hp} {Q : Shared → Prop}, Inv (X.suite a ((a, oe4) :: (X.pn ++ pins))) [] σ6 H6 s6 → (∀ s7, Inv X pins (σ6.set i none) H6 s7 → Q s7) →
              wpAny (model X.prog X.w) X.A (do bindName X.env n .none; unbindBehindTheSuite X.env n p) (fun _ s7 => Q s7) X.xe s6 := fun {σ6 H6 Q} S6 hq => gone_ok (S6.unsuite ok) hN hi hln hq
          cases f with
          | next => obtain ⟨σ6, H6, S6, q6⟩ := hsp; exact fin S6 fun s7 J7 => ⟨_, _, J7, q6⟩
          | brk => obtain ⟨σ6, H6, S6, q6⟩ := hsp; exact fin S6 fun s7 J7 => ⟨_, _, J7, q6⟩
          | cont => obtain ⟨σ6, H6, S6, q6⟩ := hsp; exact fin S6 fun s7 J7 => ⟨_, _, J7, q6⟩
          | ret u => obtain ⟨v6, σ6, H6, S6, r6, q6⟩ := hsp; exact fin S6 fun s7 J7 => ⟨_, _, _, J7, r6, q6⟩
    exact go hh w
  refine wpAny_mono ((hb (wMix X.K Wo D l) (X.pn ++ pins) _ key PassesOwn.looking).run [] s σ H D (I.toTry _) h) (fun f s1 hsp => ?_) (fun e s1 he => he)
  cases f with
  | next => obtain ⟨σ', H', J', q⟩ := hsp; exact wpAny_execs_nil ⟨σ', H', J'.ofTry ok, q⟩
  | brk => obtain ⟨σ', H', J', q⟩ := hsp; exact ⟨σ', H', J'.ofTry ok, q⟩
  | cont => obtain ⟨σ', H', J', q⟩ := hsp; exact ⟨σ', H', J'.ofTry ok, q⟩
  | ret u => obtain ⟨v, σ', H', J', r, q⟩ := hsp; exact ⟨v, σ', H', J'.ofTry ok, r, q⟩
end
end MP
set_option Elab.async false
set_option linter.all false
set_option maxRecDepth 100000
set_option maxHeartbeats 1000000
/-! MQU: try, by values. -/
namespace MP
open PySem PySem.Spec PyProof.Rows L2
/-- a clause: the class it names, what it does to an exception (its class, its fields) -/
structure Hdl where
  y : Str
  f : Str → List (Str × D) → Env' → AH → SRes
def noX (r : SRes) : SRes := match r with
  | some (.exc _ _ _, _) => none
  | r => r
def tryH (isx : Str → Str → Option Bool) (c : Str) (fs : List (Str × D)) (E : Env') (h : AH) : List Hdl → SRes
  | [] => some (.exc E c fs, h)
  | k :: r => match isx c k.y with
    | some true => noX (k.f c fs E h)
    | some false => tryH isx c fs E h r
    | none => none
def svTry (isx : Str → Str → Option Bool) (fb : Sv) (l : List Hdl) : Sv := fun E h => match fb E h with
  | some (.exc E1 c fs, h1) => tryH isx c fs E1 h1 l
  | r => r
def IsxOk (X : Cx) (Γ : Gm) (isx : Str → Str → Option Bool) : Prop := ∀ c y b, isx c y = some b → PySem.W.exmOne X.K (.ref (Γ c)) (.ref (Γ y)) = some b
section
variable {X : Cx} {Γ : Gm} {W : WX} {pos : Pos}
/-- the clause's wish follows from its evaluation -/
def WishOk (X : Cx) (Γ : Gm) (k : Hdl) (cl : Cl) : Prop := cl.c = .ref (Γ k.y) ∧ ∀ (a : Addr) (c : Str) (fs : List (Str × D)) (cls : Value) (dd : Option Addr) (σ : L2.St) (H : Hp) (E : Env') (h : AH) (n : Nat) (ρ : Rho) (Z : Ends), EnvR X Γ n ρ H E σ → HR X Γ n ρ H h → XR X Γ n ρ H c fs cls dd → H a = none → PostS X Γ n ρ H W0 (k.f c fs E h) Z → cl.wish a cls dd Z σ H
inductive HdsD (X : Cx) (Γ : Gm) : List ExceptHandler → List Hdl → List Cl → Prop
  | nil : HdsD X Γ [] [] []
  | cons {hd : ExceptHandler} {k : Hdl} {cl : Cl} {hds : List ExceptHandler} {ks : List Hdl} {cls : List Cl} (one : ∀ {hds : List ExceptHandler} {l : List Cl}, ClsOk X hds l → ClsOk X (hd :: hds) (cl :: l)) (w : WishOk X Γ k cl) (r : HdsD X Γ hds ks cls) : HdsD X Γ (hd :: hds) (k :: ks) (cl :: cls)
theorem HdsD.ok {hds : List ExceptHandler} {ks : List Hdl} {cls : List Cl} (h : HdsD X Γ hds ks cls) : ClsOk X hds cls := by
  induction h with
  | nil => exact .nil
  | cons one w r ih => exact one ih
theorem PostS.noX {n : Nat} {ρ : Rho} {H : Hp} {r : SRes} {Z : Ends} (q : PostS X Γ n ρ H W (MP.noX r) Z) : PostS X Γ n ρ H W0 r Z := by
  cases r with
  | none => exact q
  | some p =>
    obtain ⟨f, h⟩ := p
    cases f with
    | exc _ _ _ => exact False.elim q
    | _ => exact q
theorem HdsD.wish {isx : Str → Str → Option Bool} (hx : IsxOk X Γ isx) {hds : List ExceptHandler} {ks : List Hdl} {cls : List Cl} (hd : HdsD X Γ hds ks cls) {c : Str} {fs : List (Str × D)} {cv : Value} {dd : Option Addr} {σ : L2.St} {H : Hp} {E : Env'} {h : AH} {n : Nat} {ρ : Rho} {Z : Ends}
    (er : EnvR X Γ n ρ H E σ) (hr : HR X Γ n ρ H h) (xr : XR X Γ n ρ H c fs cv dd) (q : PostS X Γ n ρ H W (tryH isx c fs E h ks) Z) : wMix X.K W Z cls cv dd σ H := by
  induction hd with
  | nil => exact q σ cv dd n ρ H Ext.refl hr er xr
  | @cons hd k cl hds ks cls one w r ih =>
    unfold tryH at q
    cases e : isx c k.y with
    | none => rw [e] at q; exact q.elim
    | some b =>
      rw [e] at q
      refine ⟨b, ?_, fun eb a na => ?_, fun eb => ?_⟩
      · rw [xr.1, w.1]; exact hx c k.y b e
      · subst eb
        exact w.2 a c fs cv dd σ H E h n ρ Z er hr xr na q.noX
      · subst eb
        exact ih q
theorem ds_try {isx : Str → Str → Option Bool} {body : List Stmt} {h₀ : ExceptHandler} {hds : List ExceptHandler} {l : List Hdl} {cls : List Cl} {fb : Sv} (hN : X.N.Nodup) (tk : Takes X W) (hx : IsxOk X Γ isx)
    (hb : ∀ (W : WX) (pn : List (Addr × Obj)) (xe : Value → Shared → Prop), Takes (X.tr pn xe) W → PassesOwn (model X.prog X.w) X.A X.env xe → DSs (X.tr pn xe) Γ W body fb)
    (hh : HdsD X Γ (h₀ :: hds) l cls) (hs : X.stack = X.env :: X.outer := by rfl) (hf : X.env.frame = some X.env.locals := by rfl) : DS X Γ W (.Try body (h₀ :: hds) [] [] pos) (svTry isx fb l) :=
  PS.imp (ps_try_mix hs hf hN tk (tb := fun W => tS X Γ W fb) hb hh.ok) fun Z σ H ⟨E, h, n, ρ, er, hr, q⟩ => ⟨E, h, n, ρ, er, hr, by
    unfold svTry at q
    cases e : fb E h with
    | none => rw [e] at q; exact q.elim
    | some p =>
      obtain ⟨f, h1⟩ := p
      rw [e] at q
      cases f with
      | exc E1 c fs => exact fun σ' cv dd n' ρ' H' x hr' er' xr => hh.wish hx er' hr' xr (PostS.mono x q)
      | next E1 => exact q
      | ret d => exact q
      | brk E1 => exact q
      | cont E1 => exact q⟩
/-- except C: suite -/
theorem hcons {x y : Str} {b₀ : Stmt} {su : List Stmt} {np p : Pos} {g : Sv} {hds : List ExceptHandler} {ks : List Hdl} {cls : List Cl} (hm : X.mg x = some (.ref (Γ y))) (hsu : ∀ (a : Addr) (oe : Obj) (pn : List (Addr × Obj)), DSs (X.suite a ((a, oe) :: pn)) Γ W0 (b₀ :: su) g) (r : HdsD X Γ hds ks cls) (hg : Gl X x := by rfl) (hdb : (x == ("__debug__" : Str)) = false := by decide) :
    HdsD X Γ (.ExceptHandler (some (.Name x np)) none (b₀ :: su) p :: hds) (⟨y, fun _ _ => g⟩ :: ks) (⟨.ref (Γ y), none, fun _ _ _ => tS X Γ W0 g⟩ :: cls) :=
  .cons (fun z => .plain ⟨hg, hdb, .inl hm⟩ (fun a oe cls d pn _ _ => hsu a oe pn) z) ⟨rfl, fun a c fs cv dd σ H E h n ρ Z er hr xr na q => ⟨E, h, n, ρ, er, hr, q⟩⟩ r
def fErr (i : Nat) (y f : Str) (mk : D → D) : Str → List (Str × D) → Env' → AH → SRes := fun c fs E h => match decide (c = y ∧ i < E.length) with
  | true => match fs.lookup f with
    | some d => some (.ret (mk d), h)
    | none => none
  | false => none
theorem lookFs {n : Nat} {ρ : Rho} {H : Hp} {f : Str} {d : D} {fs : List (Str × D)} {fvs : List (Str × V)} (r : RelFs X.w X.K Γ n ρ H 0 fs fvs) (e : fs.lookup f = some d) : ∃ v, fvs.lookup f = some v ∧ RelD X.w X.K Γ n ρ H 0 d v := by
  rcases RelFs.look (f := f) r with ⟨a, _⟩ | ⟨d', v, a, b, c⟩
  · rw [a] at e; cases e
  · rw [a] at e; cases e; exact ⟨v, b, c⟩
/-- except C as n: return n.f -/
theorem hret1 {x y nm f : Str} {i : Nat} {np p p1 p2 p3 : Pos} {hds : List ExceptHandler} {ks : List Hdl} {cls : List Cl} (hN : X.N.Nodup) (hm : X.mg x = some (.ref (Γ y))) (T : XfC X.K (Γ y)) (hno : PySem.W.findIn X.K (.ref (Γ y)) f = some none) (r : HdsD X Γ hds ks cls) (hi : X.N[i]? = some nm := by rfl) (hln : X.env.kindOf nm = some .local := by rfl) (hg : Gl X x := by rfl) (hdb : (x == ("__debug__" : Str)) = false := by decide) (hd1 : (nm == ("__debug__" : Str)) = false := by decide) (hd2 : (nm == ("__classdict__" : Str)) = false := by decide)
    (hbs : attributeBase (.Name nm p1) f X.env (eval (.Name nm p1) X.env) = eval (.Name nm p1) X.env := by rfl) :
    HdsD X Γ (.ExceptHandler (some (.Name x np)) (some nm) [.Return (some (.Attribute (.Name nm p1) f p2)) p3] p :: hds) (⟨y, fErr i y f id⟩ :: ks) (⟨.ref (Γ y), some i, fun a cv d => tRet (tXf a cv d (Γ y) f (tVar i))⟩ :: cls) :=
  .cons (fun z => .named ⟨hg, hdb, .inl hm⟩ hi hln (fun a oe cv d pn hz hv => pss_one (ps_ret (pe_xf T hno hz hv (pe_var (X := X.suite a ((a, oe) :: pn)) hi (.inl hln) hd1 hd2) hbs))) z) ⟨rfl, fun a c fs cv dd σ H E h n ρ Z er hr xr na q => by
    replace q : PostS X Γ n ρ H W0 (fErr i y f id c fs E h) Z := q
    unfold fErr at q
    cases ec : decide (c = y ∧ i < E.length) with
    | false => rw [ec] at q; exact q.elim
    | true =>
      rw [ec] at q
      obtain ⟨ecy, hil⟩ := of_decide_eq_true ec
      subst ecy
      cases el : fs.lookup f with
      | none => rw [el] at q; exact q.elim
      | some d =>
        rw [el] at q
        rcases xr.2 with ⟨e1, _⟩ | ⟨da, fvs, e1, e2, e3, e4⟩
        · rw [e1] at el; cases el
        · obtain ⟨v, lv, rv⟩ := lookFs e4 el
          have hlen : i < σ.length := by rw [← er.len]; exact hil
          exact ⟨.ref a, by rw [List.getElem?_set_self hlen], rfl, xr.1, da, fvs, v, e1, e2, lv, q v n ρ H Ext.refl hr rv.up⟩⟩ r
/-- except C as n: return text, n.f -/
theorem hret2 {x y nm f z : Str} {i j k : Nat} {np p p1 p2 p3 pz pt : Pos} {hds : List ExceptHandler} {ks : List Hdl} {cls : List Cl} (hN : X.N.Nodup) (hm : X.mg x = some (.ref (Γ y))) (T : XfC X.K (Γ y)) (hno : PySem.W.findIn X.K (.ref (Γ y)) f = some none) (r : HdsD X Γ hds ks cls) (hi : X.N[i]? = some nm := by rfl) (hln : X.env.kindOf nm = some .local := by rfl) (hg : Gl X x := by rfl) (hdb : (x == ("__debug__" : Str)) = false := by decide) (hd1 : (nm == ("__debug__" : Str)) = false := by decide) (hd2 : (nm == ("__classdict__" : Str)) = false := by decide)
    (hbs : attributeBase (.Name nm p1) f X.env (eval (.Name nm p1) X.env) = eval (.Name nm p1) X.env := by rfl)
    (hs1 : starEach [.Constant (.str z) j pz, .Attribute (.Name nm p1) f p2] X.env = (false, eval (.Constant (.str z) j pz) X.env) :: starEach [.Attribute (.Name nm p1) f p2] X.env := by rfl) (hs2 : starEach [.Attribute (.Name nm p1) f p2] X.env = (false, eval (.Attribute (.Name nm p1) f p2) X.env) :: starEach [] X.env := by rfl) :
    HdsD X Γ (.ExceptHandler (some (.Name x np)) (some nm) [.Return (some (.Tuple [.Constant (.str z) j pz, .Attribute (.Name nm p1) f p2] k pt)) p3] p :: hds) (⟨y, fErr i y f fun d => .tup [.str z, d]⟩ :: ks) (⟨.ref (Γ y), some i, fun a cv d => tRet (tTup (tCons (tC (.str z)) (tCons (tXf a cv d (Γ y) f (tVar i)) tNil)))⟩ :: cls) :=
  .cons (fun w => .named ⟨hg, hdb, .inl hm⟩ hi hln (fun a oe cv d pn hz hv => pss_one (ps_ret (pe_tup (pa_cons pe_str (pa_cons (pe_xf T hno hz hv (pe_var (X := X.suite a ((a, oe) :: pn)) hi (.inl hln) hd1 hd2) hbs) pa_nil hs2) hs1)))) w) ⟨rfl, fun a c fs cv dd σ H E h n ρ Z er hr xr na q => by
    replace q : PostS X Γ n ρ H W0 (fErr i y f (fun d => .tup [.str z, d]) c fs E h) Z := q
    unfold fErr at q
    cases ec : decide (c = y ∧ i < E.length) with
    | false => rw [ec] at q; exact q.elim
    | true =>
      rw [ec] at q
      obtain ⟨ecy, hil⟩ := of_decide_eq_true ec
      subst ecy
      cases el : fs.lookup f with
      | none => rw [el] at q; exact q.elim
      | some d =>
        rw [el] at q
        rcases xr.2 with ⟨e1, _⟩ | ⟨da, fvs, e1, e2, e3, e4⟩
        · rw [e1] at el; cases el
        · obtain ⟨v, lv, rv⟩ := lookFs e4 el
          have hlen : i < σ.length := by rw [← er.len]; exact hil
          refine ⟨.ref a, by rw [List.getElem?_set_self hlen], rfl, xr.1, da, fvs, v, e1, e2, lv, show 2 ≤ sizeLine by decide, fun t ht => ?_⟩
          exact q (.ref t) n ρ _ (Ext.new ht) (hr.new ht) (.tup upd_same (hr.fresh ht) rfl (.cons (.str z) (.cons (RelD.monoP (Ext.new ht) rv) .nil)))⟩ r
end
end MP
set_option Elab.async false
set_option linter.all false
set_option maxRecDepth 100000
set_option maxHeartbeats 1000000
/-! MQV: raise, the classes that clauses name: in short forms. -/
namespace MP
open PySem PySem.Spec PyProof.Rows L2
def isxL (l : List ((Str × Str) × Bool)) : Str → Str → Option Bool := fun c y => l.lookup (c, y)
def isxB (K : PySem.W.Frag) (l : List ((Str × Str) × Bool)) : Bool := l.all fun p => decide (PySem.W.exmOne K (.ref (He.ga K p.1.1)) (.ref (He.ga K p.1.2)) = some p.2)
theorem look_mem {α β : Type} [BEq α] [LawfulBEq α] {a : α} {b : β} : ∀ {l : List (α × β)}, l.lookup a = some b → (a, b) ∈ l
  | [], e => by cases e
  | (c, d) :: l, e => by
    rw [List.lookup_cons] at e
    cases q : (a == c) with
    | true =>
      rw [q] at e
      cases e
      rw [eq_of_beq q]
      exact .head _
    | false =>
      rw [q] at e
      exact .tail _ (look_mem e)
theorem isxL_ok {X : Cx} {Γ : Gm} {l : List ((Str × Str) × Bool)} (hΓ : ∀ c, Γ.ad c = He.ga X.K c) (h : isxB X.K l = true) : IsxOk X Γ (isxL l) := fun c y b e => by
  have z := List.all_eq_true.mp h _ (look_mem e)
  rw [hΓ c, hΓ y]
  exact of_decide_eq_true z
theorem sraise {X : Cx} {Γ : Gm} {W : WX} {x : Str} {e : Expr} {p pos pos' : Pos} {f : Ev} (tk : Takes X W) (hc : (He.Fa.exc x).ok X.K = true) (hΓ : Γ.ad x = He.ga X.K x) (gC : X.mg x = some (.ref (He.ga X.K x))) (he : DE X Γ W e f) (hcalm : X.calm = true := by rfl) (hg : Gl X x := by rfl) (hs : starEach [e] X.env = (false, eval e X.env) :: starEach [] X.env := by rfl) (hdb : (x == ("__debug__" : Str)) = false := by decide) :
    DS X Γ W (.Raise (some (.Call (.Name x p) [e] [] pos)) none pos') (svRaise x f) := by
  obtain ⟨h1, h2, h3, h4⟩ := He.exc_ok hc
  rw [← hΓ] at h1 h2 h3 h4 gC
  exact ds_raise hcalm tk PySem.F.excBase_ValueError h1 gC h2 (raises_own h3 h4) hg he hs hdb
end MP
set_option Elab.async false
set_option linter.all false
set_option maxRecDepth 100000
set_option maxHeartbeats 1000000
/-! MQW: own __getitem__. -/
namespace MP
open PySem PySem.Spec PyProof.Rows L2
def ixO (tab : Str → Option Fn) (a b : D) (h : AH) : Res D := match a with
  | .obj c fs => match tab c with
    | some φ => callP φ [] [.obj c fs, b] h
    | none => none
  | a => opR (ixAny a b h)
def evIxO (tab : Str → Option Fn) (fa fb : Ev) : Ev := fun E h => bindR (fa E h) fun a h1 => bindR (fb E h1) fun b h2 => ixO tab a b h2
section
variable {X : Cx} {Γ : Gm} {W : WX} {pos : Pos}
theorem postR {n : Nat} {ρ : Rho} {H : Hp} {Wx : Value → Option Addr → Hp → Prop} {r : Option (D × AH)} {Q : VK} (q : PostE X Γ n ρ H Wx (opR r) Q) : PostO X Γ n ρ H r Q := by
  cases r <;> exact q
theorem xixO {a b : Expr} {fa fb : Ev} {tab : Str → Option Fn} {k : Nat} {p : Str} (tk : Takes X W) (hr0 : Room (k + 1) X.A) (ht : ∀ c φ, tab c = some φ → MtR X.prog X.w X.K X.mg X.base Γ c "__getitem__" ["self", p] k φ ∧ ∀ f, Meth X.K (Γ c) "__getitem__" f → PySem.W.fnIn X.K f = true) (ha : DE X Γ W a fa) (hb : DE X Γ W b fb)
    (hs : PlainIx b := by exact fun _ _ => rfl) (hs2 : ∀ x i, subscripted b true (.ref x) i = runValue (.builtin "lifetime.subscript" ⟨[.ref x, i], []⟩) := by intro _ _; rfl) : DE X Γ W (.Subscript a b pos) (evIxO tab fa fb) := by
  refine ⟨fun pins s σ H Q I ⟨E, h, n, ρ, er, hr, q⟩ => ?_⟩
  have rd : tOp (fun x y H2 Q => ∃ h2 n2 ρ2 d d2, HR X Γ n2 ρ2 H2 h2 ∧ RD X Γ n2 ρ2 H2 d x ∧ RD X Γ n2 ρ2 H2 d2 y ∧ PostE X Γ n2 ρ2 H2 (fun c d H' => W c d σ H') (ixO tab d d2 h2) Q) (tD X Γ W fa) (tD X Γ W fb) σ H Q :=
    ⟨E, h, n, ρ, er, hr, (Post.bind (R := RelT X.w X.K Γ) q).imp fun x H1 ⟨d, h1, n1, ρ1, x1, hr1, r1, q1⟩ => ⟨E, h1, n1, ρ1, er.mono x1, hr1, (Post.bind (R := RelT X.w X.K Γ) q1).imp fun y H2 ⟨d2, h2, n2, ρ2, x2, hr2, r2, q2⟩ => ⟨h2, n2, ρ2, d, d2, hr2, r1.mono x2, r2, q2⟩⟩⟩
  refine Subscript_ (binT ha hb I rd fun v u s2 x y H2 I2 rx ry q2 => ?_)
  obtain ⟨h2, n2, ρ2, d, d2, hr2, r1, r2, q3⟩ := q2
  cases d with
  | obj c fs =>
    simp only [ixO] at q3
    cases e : tab c with
    | none => rw [e] at q3; exact q3.elim
    | some φ =>
      rw [e] at q3
      obtain ⟨⟨_, f, fd, me, bd, F⟩, hfn⟩ := ht c φ e
      obtain ⟨xa, dx, fvs, rfl, g1, _⟩ := r1.obj_at
      cases rx
      obtain ⟨mA, O, _, _, _, _⟩ := ins_get I2.hok g1
      obtain ⟨od, IA, _⟩ := ObjM.look O
      obtain ⟨m, fr⟩ := I2.fr
      have sp := callP_ok (X := X) (Γ := Γ) (W := W) (σ := σ) (φ := φ) (ar := 2) (dfl := []) (ds := [.obj c fs, d2]) (dvs := []) (vs := [.ref xa, y]) (Q := Q) rfl (fun _ _ => .nil) hr2 (.cons r1 (.cons r2 .nil)) q3
      rw [List.append_nil] at sp
      refine PySem.W.sub_K fr I2.ok.mod.kin IA me.at_ (hfn f me) me.fn (wpAny_call (codeAny_mono (F.run X.A.in1 X.stack s2 H2 ⟨[.ref xa, u], []⟩ [.ref xa, u] [.ref xa, y] _ _ hr0.in1 I2.env0.in1 (bd s2 [.ref xa, u] I2.kIn rfl) (.cons rfl (.cons ry .nil)) sp) fun rr s' hq => ?_)) (hs2 _ _)
      cases rr with
      | error er => exact passAt tk σ pins H2 s2 er s' I2 hq
      | ok fl =>
        cases fl with
        | ret u => exact I2.after hq
        | next => exact hq.elim
        | brk => exact hq.elim
        | cont => exact hq.elim
  | _ => exact ixAny_ok hr0.units a b pins s2 σ H2 x y v u Q I2 rx ry ⟨h2, n2, ρ2, _, d2, hr2, r1, r2, by simp only [ixO] at q3; exact postR q3⟩ (hs _ _)
end
end MP
set_option Elab.async false
set_option linter.all false
set_option maxRecDepth 100000
set_option maxHeartbeats 1000000
/-! MQX: raise of an own exception whose __init__ says super().__init__(x); self.x = x. -/
namespace MP
open PySem PySem.Spec PyProof.Rows L2
/-- what is known of the class -/
structure SupC (K : PySem.W.Frag) (C fI : Addr) (fld : Str) : Prop where
  exc : PySem.W.excInitIn K C He.veBase "ValueError.__new__" = true
  cls : ∃ cd, PySem.W.clsIn K C = some cd ∧ PySem.HandSPX.refsVE cd.mro = true ∧ cd.hasDict = true
  no : PySem.W.findIn K (.ref C) fld = some none
  sa : PySem.W.findIn K (.ref C) "__setattr__" = some (some (.builtin "object.__setattr__"))
  exC : PySem.W.subIn K (.ref C) (.type "BaseException") = some true
  tyC : PySem.W.typeIn K (.ref C) = some (.type "type")
  kC : PySem.W.keepIn K (.ref C) = true
  iC : PySem.W.findIn K (.ref C) "__init__" = some (some (.ref fI))
  tI : PySem.W.typeIn K (.ref fI) = some (.type "function")
  sup : PySem.W.ks_superIn K C C "__init__" = some (some (.builtin "ValueError.__init__"))
  subV : PySem.W.subIn K (.ref C) (.type "ValueError") = some true
  opq : PySem.W.nsIn K cStatics "thirdparty.any" = some none
  nosup : PySem.W.nsIn K mainGlobals "super" = some none
  mroC : PySem.W.mroIn K C (.ref C) = some true
/-- what is known of its __init__ -/
structure SupI (K : PySem.W.Frag) (C fI : Addr) (file qual : Str) (params : Arguments) (body : List Stmt) (scope : Scope) (fd : FuncData) : Prop where
  fn : ∃ oc od osl nm dV kV doc pm an cda ct cc, fd = PySem.W.ksFn nm qual params body scope dV kV doc pm an (.ref cda) ct cc ∧ dV = .none ∧ kV = .none ∧ K.lookup fI = some ⟨oc, od, .func fd, osl⟩ ∧ PySem.W.codeIn K (.ref cda) qual = true ∧
    (∃ ccl cdd vs ccs tf, K.lookup cda = some ⟨ccl, cdd, .fields vs, ccs⟩ ∧ vs[2]? = some (.str file tf)) ∧ ∃ cl cld csl, K.lookup cc = some ⟨cl, cld, .cell (some (.ref C)), csl⟩
section
variable {prog : Program} {w : World} {A : Around} {R : Result → Shared → Prop} {K : PySem.W.Frag} {C fI e t0 : Addr} {fld file qual : Str} {scope : Scope} {params : Arguments} {fd : FuncData} {u : Value} {s : Shared} {p0 p1 p2 p3 p4 p5 p6 p7 p8 p9 : Pos}
abbrev supBody (fld : Str) (p0 p1 p2 p3 p4 p5 p6 p7 p8 p9 : Pos) : List Stmt := [.Expr (.Call (.Attribute (.Call (.Name "super" p0) [] [] p1) "__init__" p2) [.Name fld p3] [] p4) p5, .Assign [.Attribute (.Name "self" p6) fld p7] (.Name fld p8) p9]
abbrev supScope (fld : Str) : Scope := { kind := .function, names := [(("self" : Str), .local), (fld, .local), (("__class__" : Str), .free), (("super" : Str), .globalImplicit)], isGenerator := false, isCoroutine := false, more := [] }
def SupF (fld : Str) : Prop := fld = "part" ∨ fld = "index" ∨ fld = "row"
def SupE (qual fld : Str) (p0 p1 p2 p3 p4 : Pos) : Prop := ∀ (L f cc : Addr) (cv : Value), ∃ pl : Sem Bool, eval (.Call (.Attribute (.Call (.Name "super" p0) [] [] p1) "__init__" p2) [.Name fld p3] [] p4) (PySem.W.ksEnv qual (supScope fld) L f cv cc) = (do
    let ov ← attributeBase (.Call (.Name "super" p0) [] [] p1) "__init__" (PySem.W.ksEnv qual (supScope fld) L f cv cc) (eval (.Call (.Name "super" p0) [] [] p1) (PySem.W.ksEnv qual (supScope fld) L f cv cc))
    standAt p2.atName
    let (fn, first) ← holding [ov] (getMethod ov "__init__" pl)
    callWith p4 fn first (backTo p4 (starEach [.Name fld p3] (PySem.W.ksEnv qual (supScope fld) L f cv cc))) [])
theorem supIn {L f cc : Addr} {cv : Value} : interactive (PySem.W.ksEnv qual (supScope fld) L f cv cc) = false := rfl
theorem supSt {L f cc : Addr} {cv : Value} : starEach [.Name fld p3] (PySem.W.ksEnv qual (supScope fld) L f cv cc) = (false, eval (.Name fld p3) (PySem.W.ksEnv qual (supScope fld) L f cv cc)) :: starEach [] (PySem.W.ksEnv qual (supScope fld) L f cv cc) := rfl
theorem init_code {mg mb : Str → Option Value} {ar : Arg} (T : SupC K C fI fld) (I : SupI K C fI file qual params (supBody fld p0 p1 p2 p3 p4 p5 p6 p7 p8 p9) (supScope fld) fd) (X : K.In s.heap) (hg : s.heap.Ns mainGlobals mg) (hms : mg "super" = none) (hb : s.heap.Ns builtinsNs mb) (hmb : mb "super" = some (.type "super"))
    (lim : s.heap.NoLimit) (hroom : A.depth < recursionLimit) (he : s.heap.get? e = some (PySem.HandSPX.excO C t0)) (heK : ∀ o, K.lookup e ≠ some o)
    (hbind : BindsTo s fd ⟨[.ref e, u], []⟩ [("self", .ref e), (fld, u)]) (hpar : (params.posonlyargs ++ params.args).head? = some ar) (har : ar.arg = "self") (hf : SupF fld) (HE : SupE qual fld p0 p1 p2 p3 p4)
    (hfile : ((prog.main.file : Str) == file) = true) (htop : (prog.main.scope.names.lookup ("super" : Str)).isSome = false)
    
    (hq : ∀ h' tk' dx t1, (∀ b o, b ≠ e → s.heap.get? b = some o → h'.get? b = some o) → s.heap.objs.size ≤ dx → dx ≠ e → h'.get? e = some { cls := .ref C, dict := some dx, data := .fields #[.ref t1, .none, .none, .none, .bool false, .none] } →
      h'.Ns1 dx (fun y => if y = fld then some u else none) → R (.ok (.ret .none)) { s with heap := h', toks := tk' }) :
    codeAny (model prog w) A (.call (.ref fI) ⟨[.ref e, u], []⟩) R s := by
  have hfs : fld ≠ "self" := by rcases hf with rfl | rfl | rfl <;> decide
  have hdb : (fld == ("__debug__" : Str)) = false := by rcases hf with rfl | rfl | rfl <;> decide
  have s1 : (supScope fld).names.lookup ("self" : Str) = some .local := rfl
  have s2 : (supScope fld).names.lookup fld = some .local := by rcases hf with rfl | rfl | rfl <;> rfl
  have s3 : (supScope fld).names.lookup ("__class__" : Str) = some .free := by rcases hf with rfl | rfl | rfl <;> rfl
  have s4 : (supScope fld).names.lookup ("super" : Str) = some .globalImplicit := by rcases hf with rfl | rfl | rfl <;> rfl
  have hk : (supScope fld).kind = .function := rfl
  obtain ⟨oc, od, osl, nm, dV, kV, doc, pm, an, cda, ct, cc, rfl, _, _, fo, hcd, ⟨ccl, cdd, vs, ccs, tf, hcode, hvs⟩, cl, cld, csl, hcl⟩ := I.fn
  obtain ⟨cd, hcd1, hmro, hhd⟩ := T.cls
  refine ks_codeAny_call_defAt (body := supBody fld p0 p1 p2 p3 p4 p5 p6 p7 p8 p9) hroom (X _ _ fo) rfl lim (PySem.W.codeRec_of X hcd) rfl hbind (by show ∀ x ∈ (supScope fld).names, x.2 ≠ .cell; intro x hx; simp [supScope] at hx; rcases hx with rfl | rfl | rfl | rfl <;> exact fun z => by cases z) (fun x hx => ?_) (fun h₀ hns k0 => ?_) rfl rfl rfl
  · rcases List.mem_cons.mp hx with rfl | hx
    · exact s1
    · rcases List.mem_cons.mp hx with rfl | hx
      · exact s2
      · cases hx
  have X0 : K.In h₀ := X.keeps k0
  have he0 := k0 _ _ he
  have v1 : (fun x => [(("self" : Str), Value.ref e), (fld, u)].reverse.lookup x) "self" = some (.ref e) := by
    have q : (("self" : Str) == fld) = false := by simpa using Ne.symm hfs
    simp [List.lookup, q]
  have v2 : (fun x => [(("self" : Str), Value.ref e), (fld, u)].reverse.lookup x) fld = some u := by simp [List.lookup]
  obtain ⟨oD, hD1, hD2⟩ : ∃ oD, h₀.get? C = some oD ∧ oD.data = .cls cd := by
    unfold PySem.W.clsIn at hcd1
    split at hcd1
    · rename_i c d cd' sl ho
      cases hcd1
      exact ⟨_, X0 _ _ ho, rfl⟩
    · cases hcd1
  have Ie : PySem.W.InstAt h₀ e (PySem.HandSPX.excO C t0) C none := ⟨he0, rfl, rfl, trivial⟩
  obtain ⟨hh, g, d, t, os⟩ := s
  obtain ⟨pl, hev⟩ := HE hh.objs.size fI cc (.ref cda)
  refine ks_wpAt_execs_cons (ks_wpAt_Expr_any (env := PySem.W.ksEnv qual (supScope fld) hh.objs.size fI (.ref cda) cc) (ks_wpAt_MethodCall ?_ hev) supIn rfl)
  refine ks_wpAt_super_base (f := fI) (cc := cda) s4 s3 (by decide) rfl (X0 _ _ fo) rfl hpar rfl (X0 _ _ hcode) rfl hvs hfile htop ?_
  refine PySem.W.ks_loadName_global hk s4 (Calls.loadGlobal_builtin (hg.keeps k0) hms (hb.keeps k0) hmb ⟨rfl, ?_⟩)
  refine wpAny_loadName_free hk s3 rfl ⟨_, X0 _ _ hcl, rfl⟩ ?_
  rw [har]
  refine wpAny_loadName_local hk s1 hns v1 ?_
  refine ks_wpAny_isType_cls hD1 hD2 ⟨rfl, ?_⟩
  refine ks_wpAny_call_super hD1 hD2 he0 rfl (fun c z => by cases z) (PySem.W.looks_mroIn X0 T.mroC) (fun h1 so k1 => ?_)
  have X1 : K.In h1 := X0.keeps k1
  have he1 := k1 _ _ he0
  have sp := T.sup
  unfold PySem.W.ks_superIn at sp
  rw [hcd1] at sp
  have hI : PySem.W.Looks (model prog w) h1 (isInstance (.ref e) (.type "ValueError")) true := (show PySem.W.InstAt h1 e (PySem.HandSPX.excO C t0) C none from ⟨he1, rfl, rfl, trivial⟩).type.andThen (PySem.W.looks_subIn X1 T.subV)
  refine PySem.W.kxs_getMethod PySem.W.kxs_ValueError so (PySem.W.looks_opaque X1 T.opq) (l₀ := cd.mro) (fun A Q E s k q => wpAny_bind ((PySem.W.looks_clsIn X1 hcd1) A _ E s k (wpAny_pure q))) rfl X1 sp hI (PySem.W.ks_ne X0 Ie hcd1) (by decide) ?_
  have k2 : ∀ b o, h1.get? b = some o → (h1.push (PySem.W.kxs_mw "ValueError.__init__" e)).get? b = some o := fun b o z => Heap.get?_push_of_some _ z
  have hu : (h1.push (PySem.W.kxs_mw "ValueError.__init__" e)).get? h1.objs.size = some (PySem.W.kxs_mw "ValueError.__init__" e) := Heap.get?_push_at rfl rfl
  have k02 : ∀ b o, h₀.get? b = some o → (h1.push (PySem.W.kxs_mw "ValueError.__init__" e)).get? b = some o := fun b o z => k2 _ _ (k1 _ _ z)
  refine PySem.W.kxs_callWith (i := "ValueError.__init__") (x := e) rfl ?_
  refine Calls.evalArgs_plain (Calls.spliced_cons (wpAny_Name (wpAny_loadName_local rfl s2 (hns.keeps k02) v2 (Calls.spliced_nil ⟨hu, ?_⟩)) hdb))
  have hC2 : ∃ nm N qn bs bm hdct sn sub ab col dd k0 k1 k2 k3 k5, (h1.push (PySem.W.kxs_mw "ValueError.__init__" e)).get? C = some (PySem.excClassObj nm qn C N bs bm hdct sn sub ab col dd k0 k1 k2 k3 k5 "ValueError.__new__") ∧ ∀ X : String, bm.contains (.type X) = He.veBase.contains (.type X) := PySem.W.excInit_of (X0.keeps k02) T.exc
  obtain ⟨nm2, N2, qn2, bs2, bm2, hdct2, sn2, sub2, ab2, col2, dd2, j0, j1, j2, j3, j5, hC2, _⟩ := hC2
  refine wpAny_call (codeAny_of_tree ?_)
  show wpAny _ _ (callAny (.ref h1.objs.size) ⟨[u], []⟩) _ _ _
  simp only [callAny]
  refine wpAny_bind (wpAny_load hu ?_)
  simp only [PySem.W.kxs_mw, show (Value.type "method-wrapper" == Value.type "method" || Value.type "method-wrapper" == Value.type "builtin_function_or_method" || Value.type "method-wrapper" == Value.type "method-wrapper") = true by decide, if_true]
  refine PySem.W.KFB.if_so (by decide) ?_
  refine wpAny_bind (PySem.W.check_bound_init PySem.F.excBase_ValueError.toExcCallFacts hC2 (k02 _ _ he0) rfl ?_)
  refine wpAny_bind (wpAny_pure (wpAny_pure ?_))
  refine ⟨plainId_quiet PySem.F.excBase_ValueError.init.plain _, codeAny_builtin PySem.F.excBase_ValueError.initEntry ?_⟩
  refine PySem.W.exc_init_tree (cls := .ref C) (t0 := t0) (dv := none) (c2 := .none) (c3 := .none) (b4 := .bool false) (k02 _ _ he0) (by show 1 ≤ sizeLine; rw [sizeLine_eq]; omega) fun h3 k3 e3 _ => ?_
  have k03 : ∀ b o, b ≠ e → h₀.get? b = some o → h3.get? b = some o := fun b o hb z => k3 b o hb (k02 b o z)
  have X3 : K.In h3 := fun b o z => k03 b o (fun q => heK o (by rw [← q]; exact z)) (X0 b o z)
  have hLe : hh.objs.size ≠ e := fun z => by
    have y := Heap.lt_size (show hh.get? e = _ from he)
    rw [← z] at y
    exact absurd y (Nat.lt_irrefl _)
  have hns3 : h3.Ns hh.objs.size (fun x => [(("self" : Str), Value.ref e), (fld, u)].reverse.lookup x) := hns.at fun o z => k03 _ _ hLe z
  show _root_.PySem.wpAt _ _ _ (execs [.Assign [.Attribute (.Name "self" p6) fld p7] (.Name fld p8) p9] _) _ _ _
  refine ks_wpAt_execs_cons (_root_.PySem.wpAt_of_wpAny (plainObj_wpAny_Assign_Attribute (wpAny_Name (wpAny_loadName_local rfl s2 hns3 v2 (wpAny_Name (wpAny_loadName_local rfl s1 hns3 v1 ?_) (by decide))) hdb) rfl))
  refine PySem.W.set_plain X3 (ox := PySem.HandSPX.excO C _) (od := none) ⟨e3, rfl, rfl, trivial⟩ T.sa ?_
  refine PySem.HandSPX.exc_osa X3 e3 hcd1 hmro hhd T.no (fun h' tk' dx k dn dne hx hn => ?_)
  refine _root_.PySem.wpAt_of_wpAny (wpAny_pure ?_)
  have sz : hh.objs.size ≤ h3.objs.size := by
    obtain ⟨o, _, _, z, _⟩ := hns3
    exact Nat.le_of_lt (Heap.lt_size z)
  exact hq h' tk' dx _ (fun b o hb z => k b o hb (k03 b o hb (k0 b o z))) (Nat.le_trans sz dn) dne hx hn
end
end MP
set_option Elab.async false
set_option linter.all false
set_option maxRecDepth 100000
set_option maxHeartbeats 1000000
/-! MQY: the rule for it. -/
namespace MP
open PySem PySem.Spec PyProof.Rows L2
theorem bootSuper : bootBuiltins "super" = some (.type "super") := by kernel_rfl
/-- all that is known of a class and its __init__ -/
structure SupK (prog : Program) (K : PySem.W.Frag) (C : Addr) (fld : Str) : Prop where
  all : ∃ (fI : Addr) (file qual : Str) (params : Arguments) (fd : FuncData) (ar : Arg) (p0 p1 p2 p3 p4 p5 p6 p7 p8 p9 : Pos), SupC K C fI fld ∧ SupI K C fI file qual params (supBody fld p0 p1 p2 p3 p4 p5 p6 p7 p8 p9) (supScope fld) fd ∧ (∀ (s : Shared) (a u : Value), BindsTo s fd ⟨[a, u], []⟩ [("self", a), (fld, u)]) ∧
    (params.posonlyargs ++ params.args).head? = some ar ∧ ar.arg = "self" ∧ SupF fld ∧ SupE qual fld p0 p1 p2 p3 p4 ∧ ((prog.main.file : Str) == file) = true ∧ (prog.main.scope.names.lookup ("super" : Str)).isSome = false
section
variable {X : Cx} {Γ : Gm} {W : WX} {x : Str} {e : Expr} {C : Addr} {fld : Str} {te : TE} {p pos pos' : Pos}
theorem pmk_sup (S : SupK X.prog X.K C fld) (hr : Room 2 X.A) (hg : Gl X x) (hm : X.mg x = some (.ref C)) (ha : PE X e te)
    (he : starEach [e] X.env = (false, eval e X.env) :: starEach [] X.env := by rfl) (hdb : (x == ("__debug__" : Str)) = false := by decide) :
    PMk X (.Call (.Name x p) [e] [] pos) (fun σ H Q => te σ H fun y H1 => ∀ dx, H1 dx = none → Q (.ref C) (some dx) (upd H1 dx (.xd [(fld, y)]))) := by
  obtain ⟨fI, file, qual, params, fd, ar, p0, p1, p2, p3, p4, p5, p6, p7, p8, p9, T, SI, hb, hpar, har, hf, HE, hfile, htop⟩ := S.all
  intro pins s σ H Q I h
  refine wpAny_Call_Name_kw (ld_glob I hg hm ?_ hdb)
  refine PySem.W.callWith_K (h₀ := X.base) I.ok.mod.kin T.kC ?_ he (by rfl)
  rw [he]
  show wpAny _ _ (spliced ((false, eval e X.env) :: backTo pos (starEach [] X.env))) _ _ s
  refine Calls.spliced_cons (thn (ha.run pins s σ H _ I h) fun u s1 ⟨y, H1, I1, r1, q1⟩ => ?_)
  refine Calls.spliced_nil ⟨I1.kIn, ?_⟩
  show wpAny _ _ (call (.ref C) [u]) _ _ _
  obtain ⟨hp, g, dr, tk, os⟩ := s1
  obtain ⟨nm, N, qn, bs, bm, hdct, sn, sub, ab, col, dd, k0, k1, k2, k3, k5, hC, hT⟩ := PySem.W.excInit_of I1.kIn T.exc
  have kk : ∀ b o, hp.get? b = some o → ((hp.push (PySem.W.kdv_tup [u])).push (PySem.HandSPX.excO C hp.objs.size)).get? b = some o := fun b o e => Heap.get?_push_of_some _ (Heap.get?_push_of_some _ e)
  have hget : ((hp.push (PySem.W.kdv_tup [u])).push (PySem.HandSPX.excO C hp.objs.size)).get? (hp.objs.size + 1) = some (PySem.HandSPX.excO C hp.objs.size) := by heap_get
  have bk : ∀ b o, X.base.get? b = some o → hp.get? b = some o := I1.bk
  obtain ⟨mb, hb1, hb2⟩ := I1.mod.blt
  refine wpAny_call (PySem.HandSPX.call_own PySem.F.excBase_ValueError hT hC (PySem.W.looks_findIn I1.kIn T.iC) (fun self => PySem.W.bind_fn I1.kIn self T.tI) (by show 1 ≤ sizeLine; rw [sizeLine_eq]; omega)
    (init_code (mg := X.mg) (mb := mb) T SI (I1.kIn.keeps kk) ((I1.mod.glob.keeps bk).keeps kk) (PySem.W.mg_none_of I1.ok.mod.kin I1.mod.glob T.nosup) ((hb1.keeps bk).keeps kk) ((hb2 _ (by decide)).trans bootSuper)
      ((I1.mod.nolimit.keeps bk).keeps kk) (hr.make C [u] []).depth hget (fun o z => ?_) (hb _ _ _) hpar har hf HE hfile htop fun h' tk' dx t1 k dn dne hx hn => ?_))
  · have y : hp.objs.size + 1 < hp.objs.size := Heap.lt_size (bk _ _ (I1.ok.mod.kin _ _ z))
    exact absurd y (Nat.not_lt.mpr (Nat.le_succ _))
  · refine ⟨rfl, ?_⟩
    have hsz : ((hp.push (PySem.W.kdv_tup [u])).push (PySem.HandSPX.excO C hp.objs.size)).objs.size = hp.objs.size + 2 := by rw [Heap.size_push, Heap.size_push]
    have dn2 : hp.objs.size ≤ dx := by
      have z : ((hp.push (PySem.W.kdv_tup [u])).push (PySem.HandSPX.excO C hp.objs.size)).objs.size ≤ dx := dn
      omega
    obtain ⟨G, g1', g2'⟩ := restrict h' fun b => decide (b ≠ hp.objs.size + 1)
    have gk : ∀ b, b ≠ hp.objs.size + 1 → G.get? b = h'.get? b := fun b hb => g1' b (decide_eq_true hb)
    have ge : G.get? (hp.objs.size + 1) = none := g2' _ (by simp)
    have nh : ∀ {b : Addr} {o : Obj}, hp.get? b = some o → b ≠ hp.objs.size + 1 := fun {b o} z => Nat.ne_of_lt (Nat.lt_succ_of_lt (Heap.lt_size z))
    have J : Inv X pins σ (upd H1 dx (.xd [(fld, y)])) ⟨G, g, dr, tk', os⟩ := I1.laid (t' := tk') (a := dx) (o := .xd [(fld, y)]) (h' := G) (fun b o z => by rw [gk b (nh z)]; exact k b o (nh z) (kk b o z)) dn2
      ⟨_, hn.at fun o z => (gk dx dne).trans z, relO_put (fs := []) r1 fun g => True.intro⟩
    have hn1 : H1 (hp.objs.size + 1) = none := I1.hok.fresh (Nat.le_succ _)
    refine ⟨hp.objs.size + 1, _, _, ⟨G, g, dr, tk', os⟩, _, .ref C, some dx, rfl, J, fun b o z => ?_, ge, hx, ⟨rfl, rfl⟩, rfl, rfl, by rw [upd_ne (Ne.symm dne)]; exact hn1, rfl, I1.bare, raises_own T.exC T.tyC, q1 dx (I1.hok.fresh dn2)⟩
    by_cases hba : b = hp.objs.size + 1
    · rw [hba, ge] at z
      cases z
    · exact (gk b hba).symm.trans z
/-- raise C(e): e is kept as a field -/
def svRaiseI (c fld : Str) (f : Ev) : Sv := fun E h => bindE (f E h) E fun d h1 => match frzR d h1 with
  | some (d', h2) => some (.exc E c [(fld, d')], h2)
  | none => none
theorem sraiseI {f : Ev} (tk : Takes X W) (S : SupK X.prog X.K (He.ga X.K x) fld) (hr : Room 2 X.A) (hΓ : Γ.ad x = He.ga X.K x) (gC : X.mg x = some (.ref (He.ga X.K x))) (he : DE X Γ W e f) (hcalm : X.calm = true := by rfl) (hg : Gl X x := by rfl) (hs : starEach [e] X.env = (false, eval e X.env) :: starEach [] X.env := by rfl) (hdb : (x == ("__debug__" : Str)) = false := by decide) :
    DS X Γ W (.Raise (some (.Call (.Name x p) [e] [] pos)) none pos') (svRaiseI x fld f) :=
  PS.imp (ps_raise hcalm tk (pmk_sup S hr hg gC he hs hdb)) fun Z σ H ⟨E, h, n, ρ, er, hr, q⟩ => ⟨E, h, n, ρ, er, hr, (PostS.expr (R := RelT X.w X.K Γ) er q).imp fun v H1 ⟨d, h1, n1, ρ1, y, hr1, rd, q1⟩ dx ndx => by
    cases ef : frzR d h1 with
    | none => rw [ef] at q1; exact q1.elim
    | some z =>
      obtain ⟨d', h2⟩ := z
      rw [ef] at q1
      obtain ⟨ρ2, x2, hr2, r2⟩ := frzR_ok hr1 rd ef
      exact q1 σ _ (some dx) n1 ρ2 _ (x2.trans (Ext.new ndx)) (hr2.new ndx) ((er.mono y).mono (x2.trans (Ext.new ndx))) ⟨by rw [← hΓ], .inr ⟨dx, [(fld, v)], rfl, upd_same, hr2.fresh ndx, .cons (RelD.monoP (Ext.new ndx) r2) .nil⟩⟩⟩
end
end MP
set_option Elab.async false
set_option linter.all false
set_option maxRecDepth 100000
set_option maxHeartbeats 1000000
/-! MQZ: what the head's run must show of an exception with its own __init__. -/
namespace MP
open PySem PySem.Spec PyProof.Rows L2
def clsB (K : PySem.W.Frag) (C : Addr) : Bool := match PySem.W.clsIn K C with
  | some cd => PySem.HandSPX.refsVE cd.mro && cd.hasDict
  | none => false
def cellB (K : PySem.W.Frag) (C : Addr) (l : List (Str × Addr)) : Bool := match l with
  | [p] => match K.lookup p.2 with
    | some ⟨_, _, .cell (some (.ref D)), _⟩ => D == C
    | _ => false
  | _ => false
def noneB : Value → Bool
  | .none => true
  | _ => false
def fileB (K : PySem.W.Frag) (file : Str) : Value → Bool
  | .ref c => match K.lookup c with
    | some ⟨_, _, .fields vs, _⟩ => match (vs[2]? : Option Value) with
      | some (Value.str f _) => f == file
      | _ => false
    | _ => false
  | _ => false
def iniB (K : PySem.W.Frag) (file : Str) (C f : Addr) (q : Str) : Bool := match K.lookup f with
  | some ⟨_, _, .func fd, _⟩ => PySem.W.codeIn K fd.code q && (fileB K file fd.code && (cellB K C fd.closure && (noneB fd.defaults && noneB fd.kwdefaults)))
  | _ => false
def supBs (K : PySem.W.Frag) (C fI : Addr) (fld : Str) : List Bool := [PySem.W.excInitIn K C He.veBase "ValueError.__new__", clsB K C, He.eqO (PySem.W.findIn K (.ref C) fld) (some none), He.eqO (PySem.W.findIn K (.ref C) "__setattr__") (some (some (.builtin "object.__setattr__"))),
  decide (PySem.W.subIn K (.ref C) (.type "BaseException") = some true), decide (PySem.W.typeIn K (.ref C) = some (.type "type")), PySem.W.keepIn K (.ref C), He.eqO (PySem.W.findIn K (.ref C) "__init__") (some (some (.ref fI))), decide (PySem.W.typeIn K (.ref fI) = some (.type "function")),
  He.eqO (PySem.W.ks_superIn K C C "__init__") (some (some (.builtin "ValueError.__init__"))), decide (PySem.W.subIn K (.ref C) (.type "ValueError") = some true), He.eqO (PySem.W.nsIn K cStatics "thirdparty.any") (some none), He.eqO (PySem.W.nsIn K mainGlobals "super") (some none), decide (PySem.W.mroIn K C (.ref C) = some true)]
theorem supC_of {K : PySem.W.Frag} {C fI : Addr} {fld : Str} (h : (supBs K C fI fld).all id = true) : SupC K C fI fld := by
  have g : ∀ i b, (supBs K C fI fld)[i]? = some b → b = true := fun i b e => List.all_eq_true.mp h b (List.mem_of_getElem? e)
  refine ⟨g 0 _ rfl, ?_, He.eqO_ok (g 2 _ rfl), He.eqO_ok (g 3 _ rfl), of_decide_eq_true (g 4 _ rfl), of_decide_eq_true (g 5 _ rfl), g 6 _ rfl, He.eqO_ok (g 7 _ rfl), of_decide_eq_true (g 8 _ rfl), He.eqO_ok (g 9 _ rfl), of_decide_eq_true (g 10 _ rfl), He.eqO_ok (g 11 _ rfl), He.eqO_ok (g 12 _ rfl), of_decide_eq_true (g 13 _ rfl)⟩
  have z : clsB K C = true := g 1 _ rfl
  unfold clsB at z
  cases e : PySem.W.clsIn K C with
  | none => rw [e] at z; cases z
  | some cd =>
    rw [e] at z
    obtain ⟨a, b⟩ := He.ba z
    exact ⟨cd, rfl, a, b⟩
theorem noneB_ok {v : Value} (h : noneB v = true) : v = .none := by
  cases v <;> first | rfl | cases h
theorem supI_of {K : PySem.W.Frag} {C fI : Addr} {file : Str} {x : XiD} (hW : fnWx K fI = x.val) (h : iniB K file C fI x.d.qual = true) : ∃ fd, SupI K C fI file x.d.qual x.d.params x.d.body x.d.scope fd := by
  unfold iniB at h
  unfold fnWx at hW
  cases q : K.lookup fI with
  | none => rw [q] at h; cases h
  | some o =>
    obtain ⟨oc, od, dt, osl⟩ := o
    rw [q] at h hW
    cases dt with
    | func fd =>
      obtain ⟨n1, n2, n3, n4, n5, n6, n7, n8, n9, n10, n11, n12, n13, n14, n15⟩ := fd
      have e2 : (some (n1, n2, n3, n4, n5, n6, n7.map (fun p => (p.1, 0)), n15) : He.FnW) = (some (x.d.name, x.d.qual, x.d.params, .stmts x.d.body, x.d.scope, mainGlobals, [("__class__", 0)], builtinsNs) : He.FnW) := hW
      simp only [Option.some.injEq, Prod.mk.injEq] at e2
      obtain ⟨h1, h2, h3, h4, h5, h6, h7, h8⟩ := e2
      subst h1 h2 h3 h4 h5 h6 h8
      have c0 : (PySem.W.codeIn K n13 x.d.qual && (fileB K file n13 && (cellB K C n7 && (noneB n8 && noneB n9)))) = true := h
      obtain ⟨c1, d1⟩ := He.ba c0
      obtain ⟨c2, d2⟩ := He.ba d1
      obtain ⟨c3, d3⟩ := He.ba d2
      obtain ⟨c4, c5⟩ := He.ba d3
      clear d1 d2 d3 c0
      have d8 := noneB_ok c4
      have d9 := noneB_ok c5
      subst d8 d9
      rcases n7 with _ | ⟨p, r⟩
      · cases h7
      · rcases r with _ | ⟨p2, r⟩
        · have h7' : [(p.1, (0 : Addr))] = [(("__class__" : Str), 0)] := h7
          obtain ⟨pn, pc⟩ := p
          have hpn : pn = "__class__" := by
            have z := congrArg (fun l : List (Str × Addr) => l.head?.map (·.1)) h7'
            exact Option.some.inj z
          subst hpn
          cases n13 with
          | ref cda =>
            unfold fileB at c2; dsimp only at c2
            cases e3 : K.lookup cda with
            | none => rw [e3] at c2; cases c2
            | some oo =>
              obtain ⟨ccl, cdd, dt, ccs⟩ := oo
              rw [e3] at c2
              cases dt with
              | fields vs =>
                dsimp only at c2
                cases e4 : vs[2]? with
                | none => rw [e4] at c2; cases c2
                | some v2 =>
                  rw [e4] at c2
                  cases v2 with
                  | str f tf =>
                    have ef : f = file := by simpa using c2
                    subst ef
                    unfold cellB at c3
                    dsimp only at c3
                    cases e5 : K.lookup pc with
                    | none => rw [e5] at c3; cases c3
                    | some o5 =>
                      obtain ⟨cl, cld, dt5, csl⟩ := o5
                      rw [e5] at c3
                      cases dt5 with
                      | cell cv =>
                        cases cv with
                        | none => cases c3
                        | some cv =>
                          cases cv with
                          | ref D =>
                            have eD : D = C := by simpa using c3
                            subst eD
                            exact ⟨_, ⟨oc, od, osl, x.d.name, .none, .none, n10, n11, n12, cda, n14, pc, rfl, rfl, rfl, q, c1, ⟨ccl, cdd, vs, ccs, tf, e3, e4⟩, cl, cld, csl, e5⟩⟩
                          | _ => cases c3
                      | _ => cases c3
                  | _ => cases c2
              | _ => cases c2
          | _ => cases c2
        · exact absurd (congrArg List.length h7) (by simp)
    | _ => cases h
def supB (K : PySem.W.Frag) (file c fld q : Str) : Bool := (supBs K (He.ga K c) (He.ma K (He.ga K c) "__init__") fld).all id && iniB K file (He.ga K c) (He.ma K (He.ga K c) "__init__") q
theorem supK_of {P : Program} {K : PySem.W.Frag} {file fld : Str} {x : XiD} {ar : Arg} {p0 p1 p2 p3 p4 p5 p6 p7 p8 p9 : Pos} (hB : supB K file x.c fld x.d.qual = true) (hW : fnWx K (He.ma K (He.ga K x.c) "__init__") = x.val) (hbody : x.d.body = supBody fld p0 p1 p2 p3 p4 p5 p6 p7 p8 p9) (hsc : x.d.scope = supScope fld)
    (hb : ∀ (nm qual : Str) (doc pm ct : Value) (an : Option Addr) (cda cc : Addr) (a u : Value), bindArgs (PySem.W.ksFn nm qual x.d.params (supBody fld p0 p1 p2 p3 p4 p5 p6 p7 p8 p9) (supScope fld) .none .none doc pm an (.ref cda) ct cc) ⟨[a, u], []⟩ = pure [(("self" : Str), a), (fld, u)])
    (hpar : (x.d.params.posonlyargs ++ x.d.params.args).head? = some ar) (har : ar.arg = "self") (hf : SupF fld) (HE : SupE x.d.qual fld p0 p1 p2 p3 p4) (hfile : ((P.main.file : Str) == file) = true) (htop : (P.main.scope.names.lookup ("super" : Str)).isSome = false) : SupK P K (He.ga K x.c) fld := by
  obtain ⟨h1, h2⟩ := He.ba hB
  obtain ⟨fd, I⟩ := supI_of hW h2
  rw [hbody, hsc] at I
  refine ⟨_, file, x.d.qual, x.d.params, fd, ar, p0, p1, p2, p3, p4, p5, p6, p7, p8, p9, supC_of h1, I, fun s a u => ?_, hpar, har, hf, HE, hfile, htop⟩
  obtain ⟨oc, od, osl, nm, dV, kV, doc, pm, an, cda, ct, cc, rfl, rfl, rfl, _⟩ := I.fn
  exact BindsTo.of_eq (hb _ _ _ _ _ _ _ _ _ _)
section
variable {Γ : Gm}
theorem ixT1 {P : Program} {w : World} {K : PySem.W.Frag} {mg : Str → Option Value} {base : Heap} {c p : Str} {k : Nat} {φ : Fn} (hΓ : Γ.ad c = He.ga K c) (r : MtR P w K mg base Γ c "__getitem__" ["self", p] k φ) (hf : PySem.W.fnIn K (He.ma K (He.ga K c) "__getitem__") = true) :
    ∀ c' φ', tabF [(c, φ)] c' = some φ' → MtR P w K mg base Γ c' "__getitem__" ["self", p] k φ' ∧ ∀ f, Meth K (Γ c') "__getitem__" f → PySem.W.fnIn K f = true := fun c' φ' e => by
  unfold tabF at e
  simp only [List.lookup] at e
  cases q : (c' == c) with
  | true =>
    rw [q] at e
    cases e
    rw [eq_of_beq q]
    refine ⟨r, fun f me => ?_⟩
    have z := me.at_
    have ef : He.ma K (He.ga K c) "__getitem__" = f := by
      unfold He.ma
      rw [show He.ga K c = Γ.ad c from hΓ.symm, show PySem.W.findIn K (.ref (Γ.ad c)) "__getitem__" = _ from z]
    rw [← ef]
    exact hf
  | false => rw [q] at e; cases e
end
end MP
set_option Elab.async false
set_option linter.all false
set_option maxRecDepth 100000
set_option maxHeartbeats 1000000
/-! the evaluations of law_k36_refused -/
namespace MPK36
open PySem PySem.Spec PyProof.Rows L2 MP
abbrev owns : List Str := ["Program", "Holds", "Fails", "Loader", "Steady", "Stale"]
def isxs : List ((Str × Str) × Bool) := [((("BadChoice" : Str), ("BadChoice" : Str)), true), ((("BadChoice" : Str), ("BadLot" : Str)), false), ((("BadChoice" : Str), ("BadMode" : Str)), false), ((("BadChoice" : Str), ("BadName" : Str)), false), ((("BadChoice" : Str), ("BadProgram" : Str)), false), ((("BadChoice" : Str), ("BadUse" : Str)), false), ((("BadChoice" : Str), ("BadWish" : Str)), false), ((("BadHistory" : Str), ("BadChoice" : Str)), false), ((("BadHistory" : Str), ("BadLot" : Str)), false), ((("BadHistory" : Str), ("BadMode" : Str)), false), ((("BadHistory" : Str), ("BadName" : Str)), false), ((("BadHistory" : Str), ("BadProgram" : Str)), false), ((("BadHistory" : Str), ("BadUse" : Str)), false), ((("BadHistory" : Str), ("BadWish" : Str)), false), ((("BadLot" : Str), ("BadChoice" : Str)), false), ((("BadLot" : Str), ("BadLot" : Str)), true), ((("BadLot" : Str), ("BadMode" : Str)), false), ((("BadLot" : Str), ("BadName" : Str)), false), ((("BadLot" : Str), ("BadProgram" : Str)), false), ((("BadLot" : Str), ("BadUse" : Str)), false), ((("BadLot" : Str), ("BadWish" : Str)), false), ((("BadMode" : Str), ("BadChoice" : Str)), false), ((("BadMode" : Str), ("BadLot" : Str)), false), ((("BadMode" : Str), ("BadMode" : Str)), true), ((("BadMode" : Str), ("BadName" : Str)), false), ((("BadMode" : Str), ("BadProgram" : Str)), false), ((("BadMode" : Str), ("BadUse" : Str)), false), ((("BadMode" : Str), ("BadWish" : Str)), false), ((("BadName" : Str), ("BadChoice" : Str)), false), ((("BadName" : Str), ("BadLot" : Str)), false), ((("BadName" : Str), ("BadMode" : Str)), false), ((("BadName" : Str), ("BadName" : Str)), true), ((("BadName" : Str), ("BadProgram" : Str)), false), ((("BadName" : Str), ("BadUse" : Str)), false), ((("BadName" : Str), ("BadWish" : Str)), false), ((("BadProgram" : Str), ("BadChoice" : Str)), false), ((("BadProgram" : Str), ("BadLot" : Str)), false), ((("BadProgram" : Str), ("BadMode" : Str)), false), ((("BadProgram" : Str), ("BadName" : Str)), false), ((("BadProgram" : Str), ("BadProgram" : Str)), true), ((("BadProgram" : Str), ("BadUse" : Str)), false), ((("BadProgram" : Str), ("BadWish" : Str)), false), ((("BadUse" : Str), ("BadChoice" : Str)), false), ((("BadUse" : Str), ("BadLot" : Str)), false), ((("BadUse" : Str), ("BadMode" : Str)), false), ((("BadUse" : Str), ("BadName" : Str)), false), ((("BadUse" : Str), ("BadProgram" : Str)), false), ((("BadUse" : Str), ("BadUse" : Str)), true), ((("BadUse" : Str), ("BadWish" : Str)), false), ((("BadWish" : Str), ("BadChoice" : Str)), false), ((("BadWish" : Str), ("BadLot" : Str)), false), ((("BadWish" : Str), ("BadMode" : Str)), false), ((("BadWish" : Str), ("BadName" : Str)), false), ((("BadWish" : Str), ("BadProgram" : Str)), false), ((("BadWish" : Str), ("BadUse" : Str)), false), ((("BadWish" : Str), ("BadWish" : Str)), true), ((("TooLarge" : Str), ("BadChoice" : Str)), false), ((("TooLarge" : Str), ("BadLot" : Str)), false), ((("TooLarge" : Str), ("BadMode" : Str)), false), ((("TooLarge" : Str), ("BadName" : Str)), false), ((("TooLarge" : Str), ("BadProgram" : Str)), false), ((("TooLarge" : Str), ("BadUse" : Str)), false), ((("TooLarge" : Str), ("BadWish" : Str)), false)]
def c_MODES : D := (.tup [(.str "late"), (.str "once")])
def c_AHEAD : D := (.int (-1))
def c_KEPT : D := (.tup [(.str "protected"), (.str "hidden")])
def c_MOST_STATES : D := (.int (600))
def c_GONE : D := (.int (-2))
def c_LOADER_WISHES : D := (.tup [(.str "kept"), (.str "fresh")])
def c_MOST_USES : D := (.int (3))
def c_SHOWS : D := (.tup [(.str "shown"), (.str "weak"), (.str "protected"), (.str "hidden")])
def c_MOST_MODULES : D := (.int (3))
def c_SORTS : D := (.tup [(.str "call"), (.str "cell")])
def c_MOST_NAMES : D := (.int (4))
def c_WISHES : D := (.tup [(.str "same"), (.str "found"), (.str "cell"), (.str "address")])
def kv_SORT_OF : List (Str × D) := [("call", (.tup [(.str "call")])), ("read", (.tup [(.str "cell")])), ("take", (.tup [(.str "call"), (.str "cell")]))]
def kv_WORDS : List (Str × D) := [("cell", (.str "read")), ("address", (.str "take"))]
def ev__law_first : Sv := (svSeq (svPar 4 5 (avCons (evTup (avCons (evC (.str "program")) (avCons (evC .non) avNil))) (avCons (evTup (avCons (evC (.str "direct")) (avCons (evC (.int 0)) (avCons (evC (.int 0)) avNil)))) avNil)))
  (svSeq (svSet 1 (evLst (avCons (evC .non) (avCons (evLst (avCons (evVar 5) avNil)) (avCons (evTup (avCons (evVar 5) (avCons (evVar 5) avNil))) (avCons (evTup (avCons (evTup (avCons (evC (.str "direct")) (avCons (evC (.int 1)) (avCons (evC (.int 0)) avNil)))) avNil)) (avCons (evTup (avCons (evTup (avCons (evC (.str "place")) (avCons (evC (.int 0)) (avCons (evC (.int 1)) avNil)))) avNil)) (avCons (evTup (avCons (evTup (avCons (evC (.str "copy")) (avCons (evC (.int 0)) (avCons (evC (.int 1)) avNil)))) avNil)) (avCons (evTup (avCons (evC (.str "direct")) avNil)) avNil)))))))))
  (svSeq (svSet 2 (evLstM (avCons (evTup (avCons (evC (.str "lots")) (avCons (evC (.int 0)) (avCons (evC (.int 0)) (avCons (evC (.int 0)) (avCons (evC (.int 0)) (avCons (evVar 4) avNil))))))) (avCons (evTup (avCons (evC (.str "shorts")) (avCons (evC .non) (avCons (evC (.int 0)) (avCons (evC (.int 0)) (avCons (evC (.int 0)) (avCons (evVar 4) avNil))))))) (avCons (evTup (avCons (evC (.str "item")) (avCons (evVar 0) (avCons (evC (.int 2)) (avCons (evC (.int 0)) (avCons (evC (.int 0)) (avCons (evC (.str "name")) avNil))))))) avNil)))))
  (svSeq (svSet 2 (evBin addM (evVar 2) (evLst (avCons (evTup (avCons (evC (.str "item")) (avCons (evVar 0) (avCons (evC (.bl true)) (avCons (evC (.int 0)) (avCons (evC (.int 0)) (avCons (evC (.str "name")) avNil))))))) (avCons (evTup (avCons (evC (.str "item")) (avCons (evVar 0) (avCons (evNeg (evC (.int 1))) (avCons (evC (.int 0)) (avCons (evC (.int 0)) (avCons (evC (.str "name")) avNil))))))) avNil)))))
  (svSeq (svSet 2 (evBin addM (evVar 2) (evLst (avCons (evTup (avCons (evC (.str "show")) (avCons (evVar 0) (avCons (evC (.int 0)) (avCons (evC (.int 1)) (avCons (evC (.int 9)) (avCons (evC (.str "name")) avNil))))))) (avCons (evTup (avCons (evC (.str "show")) (avCons (evVar 0) (avCons (evC (.int 0)) (avCons (evC (.int 0)) (avCons (evC (.int 9)) (avCons (evTup (avCons (evC (.str "program")) (avCons (evC (.str "modules")) avNil))) avNil))))))) avNil)))))
  (svSeq (svFor (.name 3) (ivAny (evTup (avCons (evC (.str "live")) (avCons (evC (.str "table")) (avCons (evC (.str "meet")) (avCons (evC (.str "loader")) (avCons (evC (.str "judge")) (avCons (evC (.str "holds")) (avCons (evC (.str "least")) (avCons (evC (.str "show holds")) (avCons (evC (.str "show fails")) avNil))))))))))) (svSeq (svExpr (evMt .list appD (evVar 2) (avCons (evTup (avCons (evVar 3) (avCons (evC (.int 0)) (avCons (evC (.int 0)) (avCons (evC (.int 0)) (avCons (evC (.int 0)) (avCons (evVar 4) avNil))))))) avNil)))
  (svSeq (svFor (.name 6) (ivAny (evVar 1)) (svSeq (svExpr (evMt .list appD (evVar 2) (avCons (evTup (avCons (evVar 3) (avCons (evVar 0) (avCons (evVar 6) (avCons (evC (.int 0)) (avCons (evC (.int 0)) (avCons (evC (.str "choice")) avNil))))))) avNil)))
  svNil))
  svNil)))
  (svSeq (svFor (.name 3) (ivAny (evTup (avCons (evC (.str "live")) (avCons (evC (.str "table")) (avCons (evC (.str "meet")) (avCons (evC (.str "loader")) avNil)))))) (svSeq (svFor (.name 6) (ivAny (evTup (avCons (evC (.int 0)) (avCons (evTup avNil) (avCons (evTup (avCons (evC (.int 0)) avNil)) (avCons (evTup (avCons (evC (.int 0)) (avCons (evC (.int 3)) avNil))) (avCons (evTup (avCons (evC (.int 0)) (avCons (evC (.bl true)) avNil))) (avCons (evLst (avCons (evC (.int 0)) (avCons (evC (.int 0)) avNil))) avNil)))))))) (svSeq (svExpr (evMt .list appD (evVar 2) (avCons (evTup (avCons (evVar 3) (avCons (evVar 0) (avCons (evTup (avCons (evVar 5) avNil)) (avCons (evVar 6) (avCons (evC (.int 0)) (avCons (evC (.str "lot")) avNil))))))) avNil)))
  svNil))
  svNil))
  (svSeq (svFor (.name 3) (ivAny (evTup (avCons (evC (.str "judge")) (avCons (evC (.str "holds")) (avCons (evC (.str "least")) (avCons (evC (.str "show holds")) (avCons (evC (.str "show fails")) avNil))))))) (svSeq (svExpr (evMt .list appD (evVar 2) (avCons (evTup (avCons (evVar 3) (avCons (evVar 0) (avCons (evTup (avCons (evVar 5) avNil)) (avCons (evC (.str "same")) (avCons (evC (.int 0)) (avCons (evC (.str "none")) avNil))))))) avNil)))
  (svSeq (svFor (.name 6) (ivAny (evTup (avCons (evC .non) (avCons (evC (.str "kept")) (avCons (evC (.str "Same")) (avCons (evC (.int 0)) (avCons (evTup (avCons (evC (.str "same")) avNil)) avNil))))))) (svSeq (svExpr (evMt .list appD (evVar 2) (avCons (evTup (avCons (evVar 3) (avCons (evVar 0) (avCons (evTup (avCons (evVar 5) avNil)) (avCons (evVar 6) (avCons (evC (.int 0)) (avCons (evC (.str "wish")) avNil))))))) avNil)))
  svNil))
  svNil)))
  (svSeq (svRet (evVar 2))
  svNil)))))))))
def phi__law_first : Fn := runF 7 ev__law_first
def ev_is_word : Sv := (svSeq (svRet (evAnd (evIsi (isaB ["str"] owns) (evVar 0)) (evBin opIn (evVar 0) (evVar 1))))
  svNil)
def phi_is_word : Fn := runF 2 ev_is_word
def ev_is_number : Sv := (svSeq (svRet (evAnd (evIsi (isaB ["int", "bool"] owns) (evVar 0)) (evAnd (evNot (evIsi (isaB ["bool"] owns) (evVar 0))) (evChain opLe opLe (evVar 1) (evVar 0) (evVar 2)))))
  svNil)
def phi_is_number : Fn := runF 3 ev_is_number
def ev_Program_len : Sv := (svSeq (svRet (evBf lenD (avCons (evBin ixAny (evFld "pair" (evVar 0)) (evC (.int 0))) avNil)))
  svNil)
def phi_Program_len : Fn := runF 1 ev_Program_len
def tabLen : Str → Option Fn := tabF [("Program", phi_Program_len)]
def ev_is_lot : Sv := (svSeq (svRet (evAnd (evIsi (isaB ["tuple"] owns) (evVar 1)) (evAnd (evBin opEq (evBf (lenA tabLen) (avCons (evVar 1) avNil)) (evBf (lenA tabLen) (avCons (evVar 0) avNil))) (evBf allD (avCons (evLc kpV [2] (.name 2) (ivAny (evVar 1)) tvTrue (evCall phi_is_number [] (avCons (evVar 2) (avCons (evC (.int 0)) (avCons (evC (.int 2)) avNil))))) avNil)))))
  svNil)
def phi_is_lot : Fn := runF 3 ev_is_lot
def ev_check_lot : Sv := (svSeq (svIf (tvNot (tvOf (evCall phi_is_lot [] (avCons (evVar 0) (avCons (evVar 1) avNil))))) (svSeq (svRaise "BadLot" (evC (.str "not a lot")))
  svNil) svNil)
  svNil)
def phi_check_lot : Fn := runF 2 ev_check_lot
def ev_Program_sorts : Sv := (svSeq (svRet (evBin ixAny (evFld "pair" (evVar 0)) (evC (.int 0))))
  svNil)
def phi_Program_sorts : Fn := runF 1 ev_Program_sorts
def ev_Program_found : Sv := (svSeq (svSet 3 (evLc kpV [4] (.name 4) (ivAny (evBin ixAny (evBin ixAny (evFld "pair" (evVar 0)) (evC (.int 1))) (evVar 1))) (tvOf (evBin opEq (evBin ixAny (evVar 4) (evC (.int 0))) (evVar 2))) (evVar 4)))
  (svSeq (svRet (evIte (tvOf (evBin opNe (evVar 3) (evLst avNil))) (evBin ixAny (evVar 3) (evC (.int 0))) (evC .non)))
  svNil))
def phi_Program_found : Fn := runF 5 ev_Program_found
def ev_Program_show_of : Sv := (svSeq (svIf (tvOr (tvNot (tvOf (evCall phi_is_number [] (avCons (evVar 1) (avCons (evC (.int 0)) (avCons (evBin subD (evBf lenD (avCons (evBin ixAny (evFld "pair" (evVar 0)) (evC (.int 1))) avNil)) (evC (.int 1))) avNil)))))) (tvNot (tvOf (evCall phi_is_number [] (avCons (evVar 2) (avCons (evC (.int 0)) (avCons (evBin subD (evBf lenD (avCons (evBin ixAny (evFld "pair" (evVar 0)) (evC (.int 0))) avNil)) (evC (.int 1))) avNil))))))) (svSeq (svRaise "BadName" (evC (.str "not a module, or not a name")))
  svNil) svNil)
  (svSeq (svSet 3 (evMeth "found" (tabF [("Program", phi_Program_found)]) [] (evVar 0) (avCons (evVar 1) (avCons (evVar 2) avNil))))
  (svSeq (svRet (evIte (tvOf (evBin opIs (evVar 3) (evC .non))) (evC .non) (evBin ixAny (evVar 3) (evC (.int 1)))))
  svNil)))
def phi_Program_show_of : Fn := runF 4 ev_Program_show_of
def ev_Program_modules : Sv := (svSeq (svRet (evBin ixAny (evFld "pair" (evVar 0)) (evC (.int 1))))
  svNil)
def phi_Program_modules : Fn := runF 1 ev_Program_modules
def ev_can_shorten : Sv := (svSeq (svIf (tvOr (tvNot (tvOf (evIsi (isaB ["tuple"] owns) (evVar 1)))) (tvOr (tvOf (evBin opNe (evBf (lenA tabLen) (avCons (evVar 1) avNil)) (evC (.int 3)))) (tvOf (evBin opNotIn (evBin ixAny (evVar 1) (evC (.int 0))) (evTup (avCons (evC (.str "copy")) (avCons (evC (.str "direct")) (avCons (evC (.str "place")) avNil)))))))) (svSeq (svRet (evC (.bl false)))
  svNil) svNil)
  (svSeq (svIf (tvOr (tvNot (tvOf (evCall phi_is_number [] (avCons (evBin ixAny (evVar 1) (evC (.int 1))) (avCons (evC (.int 0)) (avCons (evBin subD (evBf (lenA tabLen) (avCons (evProp "Program" phi_Program_modules (evVar 0)) avNil)) (evC (.int 1))) avNil)))))) (tvNot (tvOf (evCall phi_is_number [] (avCons (evBin ixAny (evVar 1) (evC (.int 2))) (avCons (evC (.int 0)) (avCons (evBin subD (evBf (lenA tabLen) (avCons (evVar 0) avNil)) (evC (.int 1))) avNil))))))) (svSeq (svRet (evC (.bl false)))
  svNil) svNil)
  (svSeq (svAsg (.tup [(.name 2), (.name 3), (.name 4)]) (evVar 1))
  (svSeq (svIf (tvOf (evBin opEq (evVar 2) (evC (.str "copy")))) (svSeq (svSet 5 (evLc kpV [7] (.name 7) (ivRange2 (avCons (evC (.int 1)) (avCons (evBf (lenA tabLen) (avCons (evProp "Program" phi_Program_modules (evVar 0)) avNil)) avNil))) tvTrue (evMeth "show_of" (tabF [("Program", phi_Program_show_of)]) [] (evVar 0) (avCons (evVar 7) (avCons (evVar 4) avNil)))))
  (svSeq (svSet 6 (evBf anyD (avCons (evLc kpV [8] (.name 8) (ivAny (evVar 5)) tvTrue (evAnd (evBin opIsNot (evVar 8) (evC .non)) (evBin opNe (evVar 8) (evC (.str "hidden"))))) avNil)))
  (svSeq (svRet (evAnd (evBin opEq (evVar 3) (evC (.int 0))) (evAnd (evBin opEq (evBin ixAny (evProp "Program" phi_Program_sorts (evVar 0)) (evVar 4)) (evC (.str "cell"))) (evAnd (evBin opIs (evMeth "show_of" (tabF [("Program", phi_Program_show_of)]) [] (evVar 0) (avCons (evC (.int 0)) (avCons (evVar 4) avNil))) (evC .non)) (evVar 6)))))
  svNil))) svNil)
  (svSeq (svRet (evAnd (evBin opIsNot (evMeth "show_of" (tabF [("Program", phi_Program_show_of)]) [] (evVar 0) (avCons (evVar 3) (avCons (evVar 4) avNil))) (evC .non)) (evOr (evBin opEq (evVar 2) (evC (.str "direct"))) (evBin opEq (evBin ixAny (evProp "Program" phi_Program_sorts (evVar 0)) (evVar 4)) (evC (.str "call"))))))
  svNil)))))
def phi_can_shorten : Fn := runF 9 ev_can_shorten
def ev_is_choice : Sv := (svSeq (svIf (tvOr (tvNot (tvOf (evIsi (isaB ["tuple"] owns) (evVar 1)))) (tvNot (tvOf (evBf allD (avCons (evLc kpV [2] (.name 2) (ivAny (evVar 1)) tvTrue (evCall phi_can_shorten [] (avCons (evVar 0) (avCons (evVar 2) avNil)))) avNil))))) (svSeq (svRet (evC (.bl false)))
  svNil) svNil)
  (svSeq (svRet (evBf allD (avCons (evLc kpV [2, 3] (.tup [(.name 2), (.name 3)]) (ivZip (avCons (evVar 1) (avCons (evSlice (evVar 1) (ovSome (evC (.int 1))) ovNone) avNil))) tvTrue (evBin opLt (evVar 2) (evVar 3))) avNil)))
  svNil))
def phi_is_choice : Fn := runF 4 ev_is_choice
def ev_check_program : Sv := (svSeq (svIf (tvNot (tvOf (evIsi (isaO "Program" owns) (evVar 0)))) (svSeq (svRaiseI "BadProgram" "part" (evC .non))
  svNil) svNil)
  svNil)
def phi_check_program : Fn := runF 1 ev_check_program
def ev_check_choice : Sv := (svSeq (svExpr (evCall phi_check_program [] (avCons (evVar 0) avNil)))
  (svSeq (svIf (tvNot (tvOf (evCall phi_is_choice [] (avCons (evVar 0) (avCons (evVar 1) avNil))))) (svSeq (svRaise "BadChoice" (evC (.str "not a choice")))
  svNil) svNil)
  svNil))
def phi_check_choice : Fn := runF 2 ev_check_choice
def ev_Loader_init : Sv := (svSeq (svExpr (evCall phi_check_choice [] (avCons (evVar 1) (avCons (evVar 2) avNil))))
  (svSeq (svExpr (evCall phi_check_lot [] (avCons (evVar 1) (avCons (evVar 3) avNil))))
  (svSeq (svIf (tvNot (tvOf (evCall phi_is_word [] (avCons (evVar 4) (avCons (evC c_MODES) avNil))))) (svSeq (svRaise "BadMode" (evC (.str "not a mode")))
  svNil) svNil)
  (svSeq (svFld "program" (evVar 1) (evVar 0))
  (svSeq (svFld "choice" (evVar 2) (evVar 0))
  (svSeq (svFld "lot" (evVar 3) (evVar 0))
  (svSeq (svFld "mode" (evVar 4) (evVar 0))
  svNil)))))))
def phi_Loader_init : FnI := runI 5 "Loader" ev_Loader_init
def ev__law_second : Sv := (svSeq (svSet 1 (evMake "Loader" phi_Loader_init [] (avCons (evVar 0) (avCons (evTup avNil) (avCons (evTup (avCons (evC (.int 0)) (avCons (evC (.int 0)) avNil))) (avCons (evC (.str "once")) avNil))))))
  (svSeq (svSet 2 (evLstM (avCons (evTup (avCons (evC (.str "table")) (avCons (evVar 0) (avCons (evTup avNil) (avCons (evC .non) (avCons (evC (.int 0)) (avCons (evC (.str "none")) avNil))))))) (avCons (evTup (avCons (evC (.str "meet")) (avCons (evVar 0) (avCons (evTup avNil) (avCons (evTup (avCons (evC (.int 0)) (avCons (evC (.int 2)) avNil))) (avCons (evTup (avCons (evC .non) (avCons (evC (.str "read")) (avCons (evC (.int 1)) avNil)))) (avCons (evC (.str "none")) avNil))))))) avNil))))
  (svSeq (svFor (.name 3) (ivAny (evTup (avCons (evC .non) (avCons (evC (.str "Late")) (avCons (evC (.int 0)) (avCons (evTup (avCons (evC (.str "late")) avNil)) avNil)))))) (svSeq (svExpr (evMt .list appD (evVar 2) (avCons (evTup (avCons (evC (.str "loader")) (avCons (evVar 0) (avCons (evTup avNil) (avCons (evTup (avCons (evC (.int 0)) (avCons (evC (.int 0)) avNil))) (avCons (evVar 3) (avCons (evC (.str "mode")) avNil))))))) avNil)))
  svNil))
  (svSeq (svFor (.name 3) (ivAny (evTup (avCons (evC .non) (avCons (evTup (avCons (evC (.int 0)) (avCons (evC (.str "call")) (avCons (evC (.int 0)) avNil)))) (avCons (evTup (avCons (evC (.int 1)) (avCons (evC (.str "take")) (avCons (evC (.int 0)) avNil)))) (avCons (evTup (avCons (evC .non) (avCons (evC (.str "call")) (avCons (evC (.int 1)) avNil)))) (avCons (evTup (avCons (evC (.int 0)) (avCons (evC (.str "read")) avNil))) (avCons (evTup (avCons (evC (.int 0)) (avCons (evC (.str "read")) (avCons (evC (.int 2)) avNil)))) avNil)))))))) (svSeq (svExpr (evMt .list appD (evVar 2) (avCons (evTup (avCons (evC (.str "meet")) (avCons (evVar 0) (avCons (evTup avNil) (avCons (evTup (avCons (evC (.int 0)) (avCons (evC (.int 0)) avNil))) (avCons (evVar 3) (avCons (evC (.str "use")) avNil))))))) avNil)))
  svNil))
  (svSeq (svFor (.name 4) (ivAny (evTup (avCons (evC (.str "first")) (avCons (evC (.str "all")) (avCons (evC (.str "state")) (avCons (evC (.str "deeds")) (avCons (evC (.str "gives")) (avCons (evC (.str "judged")) (avCons (evC (.str "soonest")) (avCons (evC (.str "show steady")) (avCons (evC (.str "show stale")) avNil))))))))))) (svSeq (svSet 2 (evBin addM (evVar 2) (evLst (avCons (evTup (avCons (evVar 4) (avCons (evVar 0) (avCons (evC (.int 9)) (avCons (evC (.int 0)) (avCons (evC (.int 0)) (avCons (evC (.str "mode")) avNil))))))) (avCons (evTup (avCons (evVar 4) (avCons (evC .non) (avCons (evC (.int 9)) (avCons (evC (.int 0)) (avCons (evC (.int 0)) (avCons (evC (.str "mode")) avNil))))))) avNil)))))
  svNil))
  (svSeq (svFor (.name 4) (ivAny (evTup (avCons (evC (.str "judged")) (avCons (evC (.str "soonest")) (avCons (evC (.str "show steady")) (avCons (evC (.str "show stale")) avNil)))))) (svSeq (svExpr (evMt .list appD (evVar 2) (avCons (evTup (avCons (evVar 4) (avCons (evVar 1) (avCons (evC (.str "kept")) (avCons (evC (.int 0)) (avCons (evC (.int 0)) (avCons (evC (.str "none")) avNil))))))) avNil)))
  (svSeq (svFor (.name 3) (ivAny (evTup (avCons (evC .non) (avCons (evC (.str "same")) (avCons (evC (.str "")) (avCons (evTup (avCons (evC (.str "fresh")) avNil)) avNil)))))) (svSeq (svExpr (evMt .list appD (evVar 2) (avCons (evTup (avCons (evVar 4) (avCons (evVar 1) (avCons (evVar 3) (avCons (evC (.int 0)) (avCons (evC (.int 0)) (avCons (evC (.str "wish")) avNil))))))) avNil)))
  svNil))
  svNil)))
  (svSeq (svRet (evVar 2))
  svNil)))))))
def phi__law_second : Fn := runF 5 ev__law_second
def ev_met : Sv := (svSeq (svAsg (.tup [(.name 8), (.name 9), (.name 10)]) (evVar 3))
  (svSeq (svIf (tvOf (evBin opIsNot (evVar 8) (evC .non))) (svSeq (svIf (tvOr (tvOf (evBin opIn (evTup (avCons (evC (.str "direct")) (avCons (evVar 8) (avCons (evVar 10) avNil)))) (evVar 1))) (tvAnd (tvOf (evBin opEq (evVar 9) (evC (.str "call")))) (tvOf (evBin opIn (evTup (avCons (evC (.str "place")) (avCons (evVar 8) (avCons (evVar 10) avNil)))) (evVar 1))))) (svSeq (svRet (evVar 8))
  svNil) svNil)
  (svSeq (svIf (tvOf (evBin opIn (evMeth "show_of" (tabF [("Program", phi_Program_show_of)]) [] (evVar 0) (avCons (evVar 8) (avCons (evVar 10) avNil))) (evC c_KEPT))) (svSeq (svRet (evVar 8))
  svNil) svNil)
  svNil)) svNil)
  (svSeq (svIf (tvOf (evBin opEq (evBin ixAny (evVar 2) (evVar 10)) (evC (.int 2)))) (svSeq (svRet (evC c_AHEAD))
  svNil) svNil)
  (svSeq (svSet 5 (evIte (tvOf (evBin opIs (evVar 4) (evC .non))) (evLrg1 (evBf (lenA tabLen) (avCons (evProp "Program" phi_Program_modules (evVar 0)) avNil))) (evBf lstA (avCons (evVar 4) avNil))))
  (svSeq (svFor (.name 6) (ivAny (evVar 5)) (svSeq (svIf (tvOr (tvOf (evBin opIn (evMeth "show_of" (tabF [("Program", phi_Program_show_of)]) [] (evVar 0) (avCons (evVar 6) (avCons (evVar 10) avNil))) (evTup (avCons (evC (.str "shown")) (avCons (evC (.str "protected")) avNil))))) (tvOf (evBin opIn (evTup (avCons (evC (.str "copy")) (avCons (evVar 6) (avCons (evVar 10) avNil)))) (evVar 1)))) (svSeq (svRet (evVar 6))
  svNil) svNil)
  svNil))
  (svSeq (svIf (tvOf (evBin opEq (evBin ixAny (evVar 2) (evVar 10)) (evC (.int 1)))) (svSeq (svRet (evC c_AHEAD))
  svNil) svNil)
  (svSeq (svSet 7 (evLc kpV [6] (.name 6) (ivAny (evVar 5)) (tvOf (evBin opEq (evMeth "show_of" (tabF [("Program", phi_Program_show_of)]) [] (evVar 0) (avCons (evVar 6) (avCons (evVar 10) avNil))) (evC (.str "weak")))) (evVar 6)))
  (svSeq (svRet (evIte (tvOf (evBin opNe (evVar 7) (evLst avNil))) (evBin ixAny (evVar 7) (evC (.int 0))) (evC .non)))
  svNil))))))))
def phi_met : Fn := runF 11 ev_met
def ev_Loader_meets : Sv := (svSeq (svRet (evCall phi_met [] (avCons (evFld "program" (evVar 0)) (avCons (evFld "choice" (evVar 0)) (avCons (evFld "lot" (evVar 0)) (avCons (evVar 2) (avCons (evVar 1) avNil)))))))
  svNil)
def phi_Loader_meets : Fn := runF 3 ev_Loader_meets
def ev_with_bound : Sv := (svSeq (svSet 4 (evBf dctA (avCons (evVar 2) avNil)))
  (svSeq (svFor (.name 5) (ivAny (evVar 3)) (svSeq (svSet 6 (evMeth "meets" (tabF [("Loader", phi_Loader_meets)]) [] (evVar 0) (avCons (evVar 1) (avCons (evVar 5) avNil))))
  (svSeq (svIf (tvOf (evBin opIsNot (evVar 6) (evC .non))) (svSeq (svPut (evVar 6) (evVar 4) (evVar 5))
  svNil) svNil)
  svNil)))
  (svSeq (svRet (evBf tupA (avCons (evLc kpV [5] (.name 5) (ivAny (evBf srtA (avCons (evVar 4) avNil))) tvTrue (evTup (avCons (evVar 5) (avCons (evBin ixAny (evVar 4) (evVar 5)) avNil)))) avNil)))
  svNil)))
def phi_with_bound : Fn := runF 7 ev_with_bound
def ev_Program_uses : Sv := (svSeq (svSet 1 evDct0)
  (svSeq (svFor (.tup [(.name 2), (.name 3)]) (ivEnum (avCons (evBin ixAny (evFld "pair" (evVar 0)) (evC (.int 1))) avNil)) (svSeq (svFor (.name 4) (ivAny (evVar 3)) (svSeq (svFor (.tup [(.name 5), (.name 6)]) (ivAny (evBin ixAny (evVar 4) (evC (.int 2)))) (svSeq (svPut (evC (.bl true)) (evVar 1) (evTup (avCons (evVar 2) (avCons (evVar 5) (avCons (evVar 6) avNil)))))
  svNil))
  svNil))
  svNil))
  (svSeq (svRet (evBf srtA (avCons (evVar 1) avNil)))
  svNil)))
def phi_Program_uses : Fn := runF 7 ev_Program_uses
def ev_uses_there : Sv := (svSeq (svRet (evLc kpV [2] (.name 2) (ivAny (evMeth "uses" (tabF [("Program", phi_Program_uses)]) [] (evFld "program" (evVar 0)) avNil)) (tvOf (evBin opIn (evBin ixAny (evVar 2) (evC (.int 0))) (evVar 1))) (evVar 2)))
  svNil)
def phi_uses_there : Fn := runF 3 ev_uses_there
def ev_first_of : Sv := (svSeq (svSet 1 (evTrg1 (evBf (lenA tabLen) (avCons (evProp "Program" phi_Program_modules (evFld "program" (evVar 0))) avNil))))
  (svSeq (svRet (evTup (avCons (evVar 1) (avCons (evCall phi_with_bound [] (avCons (evVar 0) (avCons (evVar 1) (avCons (evTup avNil) (avCons (evIte (tvOf (evBin opEq (evFld "mode" (evVar 0)) (evC (.str "once")))) (evCall phi_uses_there [] (avCons (evVar 0) (avCons (evVar 1) avNil))) (evLst avNil)) avNil))))) avNil))))
  svNil))
def phi_first_of : Fn := runF 2 ev_first_of
def ev_check_loader : Sv := (svSeq (svIf (tvNot (tvOf (evIsi (isaO "Loader" owns) (evVar 0)))) (svSeq (svRaise "BadMode" (evC (.str "not a loader")))
  svNil) svNil)
  svNil)
def phi_check_loader : Fn := runF 1 ev_check_loader
def ev_first_state : Sv := (svSeq (svExpr (evCall phi_check_loader [] (avCons (evVar 0) avNil)))
  (svSeq (svRet (evCall phi_first_of [] (avCons (evVar 0) avNil)))
  svNil))
def phi_first_state : Fn := runF 1 ev_first_state
def ev_deeds_in : Sv := (svSeq (svSet 2 (evLrg1 (evBf (lenA tabLen) (avCons (evProp "Program" phi_Program_modules (evFld "program" (evVar 0))) avNil))))
  (svSeq (svSet 3 (evLc kpM [4] (.name 4) (ivAny (evCall phi_uses_there [] (avCons (evVar 0) (avCons (evBin ixAny (evVar 1) (evC (.int 0))) avNil)))) tvTrue (evTup (avCons (evC (.str "use")) (avCons (evVar 4) avNil)))))
  (svSeq (svExpr (evMt .list extD (evVar 3) (avCons (evLc kpV [5] (.name 5) (ivAny (evVar 2)) (tvOf (evBin opNotIn (evVar 5) (evBin ixAny (evVar 1) (evC (.int 0))))) (evTup (avCons (evC (.str "load")) (avCons (evVar 5) avNil)))) avNil)))
  (svSeq (svRet (evLst (avStarV (evVar 3) (avStarV (evLc kpV [5] (.name 5) (ivAny (evBin ixAny (evVar 1) (evC (.int 0)))) (tvOf (evBin opGt (evVar 5) (evC (.int 0)))) (evTup (avCons (evC (.str "unload")) (avCons (evVar 5) avNil)))) avNil))))
  svNil))))
def phi_deeds_in : Fn := runF 6 ev_deeds_in
def ev_used : Sv := (svSeq (svSet 3 (evBf dctA (avCons (evBin ixAny (evVar 1) (evC (.int 1))) avNil)))
  (svSeq (svIf (tvOr (tvOf (evBin opIn (evVar 2) (evVar 3))) (tvOf (evBin opEq (evFld "mode" (evVar 0)) (evC (.str "once"))))) (svSeq (svRet (evTup (avCons (evVar 1) (avCons (evMt .dict getD (evVar 3) (avCons (evVar 2) avNil)) avNil))))
  svNil) svNil)
  (svSeq (svSet 4 (evCall phi_with_bound [] (avCons (evVar 0) (avCons (evBin ixAny (evVar 1) (evC (.int 0))) (avCons (evBin ixAny (evVar 1) (evC (.int 1))) (avCons (evLst (avCons (evVar 2) avNil)) avNil))))))
  (svSeq (svRet (evTup (avCons (evTup (avCons (evBin ixAny (evVar 1) (evC (.int 0))) (avCons (evVar 4) avNil))) (avCons (evMt .dict getD (evBf dctA (avCons (evVar 4) avNil)) (avCons (evVar 2) avNil)) avNil))))
  svNil))))
def phi_used : Fn := runF 5 ev_used
def ev_done : Sv := (svSeq (svAsg (.tup [(.name 4), (.name 5)]) (evVar 1))
  (svSeq (svIf (tvOf (evBin opEq (evBin ixAny (evVar 2) (evC (.int 0))) (evC (.str "use")))) (svSeq (svRet (evCall phi_used [] (avCons (evVar 0) (avCons (evVar 1) (avCons (evBin ixAny (evVar 2) (evC (.int 1))) avNil)))))
  svNil) svNil)
  (svSeq (svIf (tvOf (evBin opEq (evBin ixAny (evVar 2) (evC (.int 0))) (evC (.str "load")))) (svSeq (svSet 6 (evBf tupA (avCons (evBf srtA (avCons (evLst (avStarV (evVar 4) (avCons (evBin ixAny (evVar 2) (evC (.int 1))) avNil))) avNil)) avNil)))
  (svSeq (svSet 7 (evIte (tvOf (evBin opEq (evFld "mode" (evVar 0)) (evC (.str "once")))) (evLc kpV [8] (.name 8) (ivAny (evCall phi_uses_there [] (avCons (evVar 0) (avCons (evVar 6) avNil)))) (tvOf (evBin opEq (evBin ixAny (evVar 8) (evC (.int 0))) (evBin ixAny (evVar 2) (evC (.int 1))))) (evVar 8)) (evLst avNil)))
  (svSeq (svRet (evTup (avCons (evTup (avCons (evVar 6) (avCons (evCall phi_with_bound [] (avCons (evVar 0) (avCons (evVar 6) (avCons (evVar 5) (avCons (evVar 7) avNil))))) avNil))) (avCons (evC .non) avNil))))
  svNil))) svNil)
  (svSeq (svSet 3 (evLc kpV [8, 9] (.tup [(.name 8), (.name 9)]) (ivAny (evVar 5)) (tvOf (evBin opNe (evBin ixAny (evVar 8) (evC (.int 0))) (evBin ixAny (evVar 2) (evC (.int 1))))) (evTup (avCons (evVar 8) (avCons (evIte (tvOf (evBin opEq (evVar 9) (evBin ixAny (evVar 2) (evC (.int 1))))) (evC c_GONE) (evVar 9)) avNil)))))
  (svSeq (svRet (evTup (avCons (evTup (avCons (evBf tupA (avCons (evLc kpV [10] (.name 10) (ivAny (evVar 4)) (tvOf (evBin opNe (evVar 10) (evBin ixAny (evVar 2) (evC (.int 1))))) (evVar 10)) avNil)) (avCons (evBf tupA (avCons (evVar 3) avNil)) avNil))) (avCons (evC .non) avNil))))
  svNil)))))
def phi_done : Fn := runF 11 ev_done
def ev_reach : Sv := (svSeq (svSet 1 (evCall phi_first_of [] (avCons (evVar 0) avNil)))
  (svSeq (svPar 2 3 (avCons (evDctM (apCons (evVar 1) (evTup avNil) apNil)) (avCons (evLstM (avCons (evVar 1) avNil)) avNil)))
  (svSeq (svWhile 2000 (tvOf (evBin opNe (evVar 3) (evLst avNil))) (svSeq (svSet 4 (evMt .list popD (evVar 3) (avCons (evC (.int 0)) avNil)))
  (svSeq (svFor (.name 5) (ivAny (evCall phi_deeds_in [] (avCons (evVar 0) (avCons (evVar 4) avNil)))) (svSeq (svSet 6 (evBin ixAny (evCall phi_done [] (avCons (evVar 0) (avCons (evVar 4) (avCons (evVar 5) avNil)))) (evC (.int 0))))
  (svSeq (svIf (tvOf (evBin opNotIn (evVar 6) (evVar 2))) (svSeq (svIf (tvOf (evBin opEq (evBf (lenA tabLen) (avCons (evVar 2) avNil)) (evC c_MOST_STATES))) (svSeq (svRaise "TooLarge" (evC (.str "more than 600 states")))
  svNil) svNil)
  (svSeq (svPut (evTup (avStarV (evBin ixAny (evVar 2) (evVar 4)) (avCons (evVar 5) avNil))) (evVar 2) (evVar 6))
  (svSeq (svExpr (evMt .list appD (evVar 3) (avCons (evVar 6) avNil)))
  svNil))) svNil)
  svNil)))
  svNil)))
  (svSeq (svRet (evVar 2))
  svNil))))
def phi_reach : Fn := runF 7 ev_reach
def ev_all_states : Sv := (svSeq (svExpr (evCall phi_check_loader [] (avCons (evVar 0) avNil)))
  (svSeq (svRet (evBf lstA (avCons (evCall phi_reach [] (avCons (evVar 0) avNil)) avNil)))
  svNil))
def phi_all_states : Fn := runF 1 ev_all_states
def ev_Steady_init : Sv := (svSeq (svFld "states" (evBf lstA (avCons (evVar 1) avNil)) (evVar 0))
  svNil)
def phi_Steady_init : FnI := runI 2 "Steady" ev_Steady_init
def ev_breaks : Sv := (svSeq (svIf (tvOf (evBin opNe (evBin ixAny (evVar 2) (evC (.int 0))) (evC (.str "use")))) (svSeq (svRet (evC (.bl false)))
  svNil) svNil)
  (svSeq (svSet 4 (evBin ixAny (evCall phi_done [] (avCons (evVar 0) (avCons (evVar 1) (avCons (evVar 2) avNil)))) (evC (.int 1))))
  (svSeq (svIf (tvOf (evBin opEq (evVar 3) (evC (.str "kept")))) (svSeq (svRet (evBin opEq (evVar 4) (evC c_GONE)))
  svNil) svNil)
  (svSeq (svRet (evAnd (evBin opIsNot (evVar 4) (evC .non)) (evAnd (evBin opNe (evVar 4) (evC c_GONE)) (evBin opNe (evVar 4) (evMeth "meets" (tabF [("Loader", phi_Loader_meets)]) [] (evVar 0) (avCons (evBin ixAny (evVar 1) (evC (.int 0))) (avCons (evBin ixAny (evVar 2) (evC (.int 1))) avNil)))))))
  svNil))))
def phi_breaks : Fn := runF 5 ev_breaks
def ev_check_wish_loading : Sv := (svSeq (svExpr (evCall phi_check_loader [] (avCons (evVar 0) avNil)))
  (svSeq (svIf (tvNot (tvOf (evCall phi_is_word [] (avCons (evVar 1) (avCons (evC c_LOADER_WISHES) avNil))))) (svSeq (svRaise "BadWish" (evC (.str "not a wish for loaders")))
  svNil) svNil)
  svNil))
def phi_check_wish_loading : Fn := runF 2 ev_check_wish_loading
def ev_Steady_shows : Sv := (svSeq (svExpr (evCall phi_check_wish_loading [] (avCons (evVar 1) (avCons (evVar 2) avNil))))
  (svSeq (svSet 3 (evDc [4] (.name 4) (ivAny (evFld "states" (evVar 0))) tvTrue (evVar 4) (evC (.bl true))))
  (svSeq (svIf (tvOf (evBin opNotIn (evCall phi_first_of [] (avCons (evVar 1) avNil)) (evVar 3))) (svSeq (svRet (evC (.bl false)))
  svNil) svNil)
  (svSeq (svFor (.name 4) (ivAny (evVar 3)) (svSeq (svFor (.name 5) (ivAny (evCall phi_deeds_in [] (avCons (evVar 1) (avCons (evVar 4) avNil)))) (svSeq (svIf (tvOr (tvOf (evBin opNotIn (evBin ixAny (evCall phi_done [] (avCons (evVar 1) (avCons (evVar 4) (avCons (evVar 5) avNil)))) (evC (.int 0))) (evVar 3))) (tvOf (evCall phi_breaks [] (avCons (evVar 1) (avCons (evVar 4) (avCons (evVar 5) (avCons (evVar 2) avNil))))))) (svSeq (svRet (evC (.bl false)))
  svNil) svNil)
  svNil))
  svNil))
  (svSeq (svRet (evC (.bl true)))
  svNil)))))
def phi_Steady_shows : Fn := runF 6 ev_Steady_shows
def ev_is_deed : Sv := (svSeq (svIf (tvOr (tvNot (tvOf (evIsi (isaB ["tuple"] owns) (evVar 2)))) (tvOr (tvOf (evBin opNe (evBf (lenA tabLen) (avCons (evVar 2) avNil)) (evC (.int 2)))) (tvNot (tvOf (evCall phi_is_word [] (avCons (evBin ixAny (evVar 2) (evC (.int 0))) (avCons (evTup (avCons (evC (.str "use")) (avCons (evC (.str "load")) (avCons (evC (.str "unload")) avNil)))) avNil))))))) (svSeq (svRet (evC (.bl false)))
  svNil) svNil)
  (svSeq (svIf (tvOf (evBin opNe (evBin ixAny (evVar 2) (evC (.int 0))) (evC (.str "use")))) (svSeq (svRet (evAnd (evCall phi_is_number [] (avCons (evBin ixAny (evVar 2) (evC (.int 1))) (avCons (evC (.int 0)) (avCons (evBin subD (evBf (lenA tabLen) (avCons (evProp "Program" phi_Program_modules (evFld "program" (evVar 0))) avNil)) (evC (.int 1))) avNil)))) (evBin opIn (evVar 2) (evCall phi_deeds_in [] (avCons (evVar 0) (avCons (evVar 1) avNil))))))
  svNil) svNil)
  (svSeq (svSet 3 (evBin ixAny (evVar 2) (evC (.int 1))))
  (svSeq (svIf (tvOr (tvNot (tvOf (evIsi (isaB ["tuple"] owns) (evVar 3)))) (tvOr (tvOf (evBin opNe (evBf (lenA tabLen) (avCons (evVar 3) avNil)) (evC (.int 3)))) (tvNot (tvOf (evCall phi_is_number [] (avCons (evBin ixAny (evVar 3) (evC (.int 0))) (avCons (evC (.int 0)) (avCons (evBin subD (evBf (lenA tabLen) (avCons (evProp "Program" phi_Program_modules (evFld "program" (evVar 0))) avNil)) (evC (.int 1))) avNil)))))))) (svSeq (svRet (evC (.bl false)))
  svNil) svNil)
  (svSeq (svRet (evAnd (evCall phi_is_number [] (avCons (evBin ixAny (evVar 3) (evC (.int 2))) (avCons (evC (.int 0)) (avCons (evBin subD (evBf (lenA tabLen) (avCons (evFld "program" (evVar 0)) avNil)) (evC (.int 1))) avNil)))) (evBin opIn (evVar 2) (evCall phi_deeds_in [] (avCons (evVar 0) (avCons (evVar 1) avNil))))))
  svNil)))))
def phi_is_deed : Fn := runF 4 ev_is_deed
def ev_walked : Sv := (svSeq (svPar 3 4 (avCons (evLstM (avCons (evCall phi_first_of [] (avCons (evVar 0) avNil)) avNil)) (avCons (evLstM avNil) avNil)))
  (svSeq (svFor (.name 2) (ivAny (evVar 1)) (svSeq (svIf (tvNot (tvOf (evCall phi_is_deed [] (avCons (evVar 0) (avCons (evBin ixAny (evVar 3) (evNeg (evC (.int 1)))) (avCons (evVar 2) avNil)))))) (svSeq (svRet (evTup (avCons (evF (evVar 3)) (avCons (evC .non) avNil))))
  svNil) svNil)
  (svSeq (svAsg (.tup [(.name 5), (.name 6)]) (evCall phi_done [] (avCons (evVar 0) (avCons (evBin ixAny (evVar 3) (evNeg (evC (.int 1)))) (avCons (evVar 2) avNil)))))
  (svSeq (svExpr (evMt .list appD (evVar 3) (avCons (evVar 5) avNil)))
  (svSeq (svExpr (evMt .list appD (evVar 4) (avCons (evVar 6) avNil)))
  svNil)))))
  (svSeq (svRet (evTup (avCons (evF (evVar 3)) (avCons (evF (evVar 4)) avNil))))
  svNil)))
def phi_walked : Fn := runF 7 ev_walked
def ev_Stale_shows : Sv := (svSeq (svExpr (evCall phi_check_wish_loading [] (avCons (evVar 1) (avCons (evVar 2) avNil))))
  (svSeq (svAsg (.tup [(.name 3), (.name 4)]) (evCall phi_walked [] (avCons (evVar 1) (avCons (evFld "history" (evVar 0)) avNil))))
  (svSeq (svRet (evAnd (evBin opIsNot (evVar 4) (evC .non)) (evAnd (evBin opNe (evVar 4) (evLst avNil)) (evCall phi_breaks [] (avCons (evVar 1) (avCons (evBin ixAny (evVar 3) (evNeg (evC (.int 2)))) (avCons (evBin ixAny (evFld "history" (evVar 0)) (evNeg (evC (.int 1)))) (avCons (evVar 2) avNil))))))))
  svNil)))
def phi_Stale_shows : Fn := runF 5 ev_Stale_shows
def ev_Stale_init : Sv := (svSeq (svFld "history" (evBf lstA (avCons (evVar 1) avNil)) (evVar 0))
  svNil)
def phi_Stale_init : FnI := runI 2 "Stale" ev_Stale_init
def ev_judge_loader : Sv := (svSeq (svExpr (evCall phi_check_wish_loading [] (avCons (evVar 0) (avCons (evVar 1) avNil))))
  (svSeq (svSet 2 (evCall phi_reach [] (avCons (evVar 0) avNil)))
  (svSeq (svFor (.tup [(.name 3), (.name 4)]) (ivItems (evVar 2)) (svSeq (svFor (.name 5) (ivAny (evCall phi_deeds_in [] (avCons (evVar 0) (avCons (evVar 3) avNil)))) (svSeq (svIf (tvOf (evCall phi_breaks [] (avCons (evVar 0) (avCons (evVar 3) (avCons (evVar 5) (avCons (evVar 1) avNil)))))) (svSeq (svRet (evMake "Stale" phi_Stale_init [] (avCons (evLst (avStarV (evVar 4) (avCons (evVar 5) avNil))) avNil)))
  svNil) svNil)
  svNil))
  svNil))
  (svSeq (svRet (evMake "Steady" phi_Steady_init [] (avCons (evBf lstA (avCons (evVar 2) avNil)) avNil)))
  svNil))))
def phi_judge_loader : Fn := runF 6 ev_judge_loader
def ev_soonest : Sv := (svSeq (svSet 2 (evCall phi_judge_loader [] (avCons (evVar 0) (avCons (evVar 1) avNil))))
  (svSeq (svRet (evIte (tvOf (evIsi (isaO "Stale" owns) (evVar 2))) (evBf (lenA tabLen) (avCons (evFld "history" (evVar 2)) avNil)) (evC .non)))
  svNil))
def phi_soonest : Fn := runF 3 ev_soonest
def ev_check_history : Sv := (svSeq (svExpr (evCall phi_check_loader [] (avCons (evVar 0) avNil)))
  (svSeq (svIf (tvNot (tvOf (evIsi (isaB ["list", "tuple"] owns) (evVar 1)))) (svSeq (svRaiseI "BadHistory" "index" (evC .non))
  svNil) svNil)
  (svSeq (svAsg (.tup [(.name 2), (.name 3)]) (evCall phi_walked [] (avCons (evVar 0) (avCons (evVar 1) avNil))))
  (svSeq (svIf (tvOf (evBin opIs (evVar 3) (evC .non))) (svSeq (svRaiseI "BadHistory" "index" (evBin subD (evBf (lenA tabLen) (avCons (evVar 2) avNil)) (evC (.int 1))))
  svNil) svNil)
  (svSeq (svRet (evTup (avCons (evVar 2) (avCons (evVar 3) avNil))))
  svNil)))))
def phi_check_history : Fn := runF 4 ev_check_history
def ev_state_after : Sv := (svSeq (svRet (evBin ixAny (evBin ixAny (evCall phi_check_history [] (avCons (evVar 0) (avCons (evVar 1) avNil))) (evC (.int 0))) (evNeg (evC (.int 1)))))
  svNil)
def phi_state_after : Fn := runF 2 ev_state_after
def ev_deeds : Sv := (svSeq (svRet (evCall phi_deeds_in [] (avCons (evVar 0) (avCons (evCall phi_state_after [] (avCons (evVar 0) (avCons (evVar 1) avNil))) avNil))))
  svNil)
def phi_deeds : Fn := runF 2 ev_deeds
def ev_gives : Sv := (svSeq (svRet (evBin ixAny (evCall phi_check_history [] (avCons (evVar 0) (avCons (evVar 1) avNil))) (evC (.int 1))))
  svNil)
def phi_gives : Fn := runF 2 ev_gives
def ev__law_loaders : Sv := (svSeq (svIf (tvOf (evBin opEq (evVar 0) (evC (.str "state")))) (svSeq (svRet (evCall phi_state_after [] (avCons (evVar 1) (avCons (evVar 2) avNil))))
  svNil) svNil)
  (svSeq (svIf (tvOf (evBin opIn (evVar 0) (evTup (avCons (evC (.str "deeds")) (avCons (evC (.str "gives")) avNil))))) (svSeq (svRet (evIte (tvOf (evBin opEq (evVar 0) (evC (.str "deeds")))) (evCall phi_deeds [] (avCons (evVar 1) (avCons (evVar 2) avNil))) (evCall phi_gives [] (avCons (evVar 1) (avCons (evVar 2) avNil)))))
  svNil) svNil)
  (svSeq (svIf (tvOf (evBin opIn (evVar 0) (evTup (avCons (evC (.str "judged")) (avCons (evC (.str "soonest")) avNil))))) (svSeq (svRet (evIte (tvOf (evBin opEq (evVar 0) (evC (.str "judged")))) (evCall phi_judge_loader [] (avCons (evVar 1) (avCons (evVar 2) avNil))) (evCall phi_soonest [] (avCons (evVar 1) (avCons (evVar 2) avNil)))))
  svNil) svNil)
  (svSeq (svIf (tvOf (evBin opIn (evVar 0) (evTup (avCons (evC (.str "show steady")) (avCons (evC (.str "show stale")) avNil))))) (svSeq (svRet (evIte (tvOf (evBin opEq (evVar 0) (evC (.str "show steady")))) (evMeth "shows" (tabF [("Steady", phi_Steady_shows), ("Stale", phi_Stale_shows)]) [] (evMake "Steady" phi_Steady_init [] (avCons (evLst avNil) avNil)) (avCons (evVar 1) (avCons (evVar 2) avNil))) (evMeth "shows" (tabF [("Steady", phi_Steady_shows), ("Stale", phi_Stale_shows)]) [] (evMake "Stale" phi_Stale_init [] (avCons (evLst avNil) avNil)) (avCons (evVar 1) (avCons (evVar 2) avNil)))))
  svNil) svNil)
  (svSeq (svRet (evIte (tvOf (evBin opEq (evVar 0) (evC (.str "first")))) (evCall phi_first_state [] (avCons (evVar 1) avNil)) (evCall phi_all_states [] (avCons (evVar 1) avNil))))
  svNil)))))
def phi__law_loaders : Fn := runF 3 ev__law_loaders
def ev_Program_getitem : Sv := (svSeq (svIf (tvNot (tvOf (evCall phi_is_number [] (avCons (evVar 1) (avCons (evC (.int 0)) (avCons (evBin subD (evBf lenD (avCons (evBin ixAny (evFld "pair" (evVar 0)) (evC (.int 1))) avNil)) (evC (.int 1))) avNil)))))) (svSeq (svRaise "BadName" (evC (.str "not a module")))
  svNil) svNil)
  (svSeq (svRet (evBf tupA (avCons (evLc kpV [2] (.name 2) (ivAny (evBin ixAny (evBin ixAny (evFld "pair" (evVar 0)) (evC (.int 1))) (evVar 1))) tvTrue (evBin ixAny (evVar 2) (evC (.int 0)))) avNil)))
  svNil))
def phi_Program_getitem : Fn := runF 3 ev_Program_getitem
def ev_can_use : Sv := (svSeq (svRet (evAnd (evCall phi_is_word [] (avCons (evVar 1) (avCons (evBf tupA (avCons (evC (.dct (strD kv_SORT_OF))) avNil)) avNil))) (evAnd (evCall phi_is_number [] (avCons (evVar 2) (avCons (evC (.int 0)) (avCons (evBin subD (evBf lenD (avCons (evVar 0) avNil)) (evC (.int 1))) avNil)))) (evBin opIn (evBin ixAny (evVar 0) (evVar 2)) (evBin ixAny (evC (.dct (strD kv_SORT_OF))) (evVar 1))))))
  svNil)
def phi_can_use : Fn := runF 3 ev_can_use
def ev_is_definition : Sv := (svSeq (svIf (tvOr (tvNot (tvOf (evIsi (isaB ["tuple"] owns) (evVar 1)))) (tvOr (tvOf (evBin opNe (evBf lenD (avCons (evVar 1) avNil)) (evC (.int 3)))) (tvNot (tvOf (evCall phi_is_number [] (avCons (evBin ixAny (evVar 1) (evC (.int 0))) (avCons (evC (.int 0)) (avCons (evBin subD (evBf lenD (avCons (evVar 0) avNil)) (evC (.int 1))) avNil)))))))) (svSeq (svRet (evC (.bl false)))
  svNil) svNil)
  (svSeq (svIf (tvOr (tvNot (tvOf (evCall phi_is_word [] (avCons (evBin ixAny (evVar 1) (evC (.int 1))) (avCons (evC c_SHOWS) avNil))))) (tvOr (tvNot (tvOf (evIsi (isaB ["tuple"] owns) (evBin ixAny (evVar 1) (evC (.int 2)))))) (tvOf (evBin opGt (evBf lenD (avCons (evBin ixAny (evVar 1) (evC (.int 2))) avNil)) (evC c_MOST_USES))))) (svSeq (svRet (evC (.bl false)))
  svNil) svNil)
  (svSeq (svIf (tvAnd (tvOf (evBin opEq (evBin ixAny (evVar 0) (evBin ixAny (evVar 1) (evC (.int 0)))) (evC (.str "cell")))) (tvOf (evBin opNe (evBin ixAny (evVar 1) (evC (.int 2))) (evTup avNil)))) (svSeq (svRet (evC (.bl false)))
  svNil) svNil)
  (svSeq (svRet (evBf allD (avCons (evLc kpV [2] (.name 2) (ivAny (evBin ixAny (evVar 1) (evC (.int 2)))) tvTrue (evAnd (evIsi (isaB ["tuple"] owns) (evVar 2)) (evAnd (evBin opEq (evBf lenD (avCons (evVar 2) avNil)) (evC (.int 2))) (evCall phi_can_use [] (avCons (evVar 0) (avCons (evBin ixAny (evVar 2) (evC (.int 0))) (avCons (evBin ixAny (evVar 2) (evC (.int 1))) avNil))))))) avNil)))
  svNil))))
def phi_is_definition : Fn := runF 3 ev_is_definition
def ev_is_module : Sv := (svSeq (svIf (tvOr (tvNot (tvOf (evIsi (isaB ["tuple"] owns) (evVar 1)))) (tvNot (tvOf (evBf allD (avCons (evLc kpV [2] (.name 2) (ivAny (evVar 1)) tvTrue (evCall phi_is_definition [] (avCons (evVar 0) (avCons (evVar 2) avNil)))) avNil))))) (svSeq (svRet (evC (.bl false)))
  svNil) svNil)
  (svSeq (svRet (evBf allD (avCons (evLc kpV [2, 3] (.tup [(.name 2), (.name 3)]) (ivZip (avCons (evVar 1) (avCons (evSlice (evVar 1) (ovSome (evC (.int 1))) ovNone) avNil))) tvTrue (evBin opLt (evBin ixAny (evVar 2) (evC (.int 0))) (evBin ixAny (evVar 3) (evC (.int 0))))) avNil)))
  svNil))
def phi_is_module : Fn := runF 4 ev_is_module
def ev_are_modules : Sv := (svSeq (svIf (tvOr (tvNot (tvOf (evIsi (isaB ["tuple"] owns) (evVar 1)))) (tvNot (tvOf (evChain opLe opLe (evC (.int 1)) (evBf lenD (avCons (evVar 1) avNil)) (evC c_MOST_MODULES))))) (svSeq (svRet (evC (.bl false)))
  svNil) svNil)
  (svSeq (svRet (evBf allD (avCons (evLc kpV [2] (.name 2) (ivAny (evVar 1)) tvTrue (evCall phi_is_module [] (avCons (evVar 0) (avCons (evVar 2) avNil)))) avNil)))
  svNil))
def phi_are_modules : Fn := runF 3 ev_are_modules
def ev_are_sorts : Sv := (svSeq (svIf (tvOr (tvNot (tvOf (evIsi (isaB ["tuple"] owns) (evVar 0)))) (tvNot (tvOf (evChain opLe opLe (evC (.int 1)) (evBf lenD (avCons (evVar 0) avNil)) (evC c_MOST_NAMES))))) (svSeq (svRet (evC (.bl false)))
  svNil) svNil)
  (svSeq (svRet (evBf allD (avCons (evLc kpV [1] (.name 1) (ivAny (evVar 0)) tvTrue (evCall phi_is_word [] (avCons (evVar 1) (avCons (evC c_SORTS) avNil)))) avNil)))
  svNil))
def phi_are_sorts : Fn := runF 2 ev_are_sorts
def ev_Program_init : Sv := (svSeq (svIf (tvNot (tvOf (evCall phi_are_sorts [] (avCons (evVar 1) avNil)))) (svSeq (svRaiseI "BadProgram" "part" (evC (.str "sorts")))
  svNil) svNil)
  (svSeq (svIf (tvNot (tvOf (evCall phi_are_modules [] (avCons (evVar 1) (avCons (evVar 2) avNil))))) (svSeq (svRaiseI "BadProgram" "part" (evC (.str "modules")))
  svNil) svNil)
  (svSeq (svFld "pair" (evTup (avCons (evVar 1) (avCons (evVar 2) avNil))) (evVar 0))
  svNil)))
def phi_Program_init : FnI := runI 3 "Program" ev_Program_init
def ev_Program_with_show : Sv := (svSeq (svIf (tvOf (evBin opIs (evMeth "show_of" (tabF [("Program", phi_Program_show_of)]) [] (evVar 0) (avCons (evVar 1) (avCons (evVar 2) avNil))) (evC .non))) (svSeq (svRaise "BadName" (evC (.str "not defined there")))
  svNil) svNil)
  (svSeq (svSet 4 (evLc kpV [6] (.name 6) (ivAny (evBin ixAny (evBin ixAny (evFld "pair" (evVar 0)) (evC (.int 1))) (evVar 1))) tvTrue (evIte (tvOf (evBin opEq (evBin ixAny (evVar 6) (evC (.int 0))) (evVar 2))) (evTup (avCons (evBin ixAny (evVar 6) (evC (.int 0))) (avCons (evVar 3) (avCons (evBin ixAny (evVar 6) (evC (.int 2))) avNil)))) (evVar 6))))
  (svSeq (svSet 5 (evLc kpV [7, 8] (.tup [(.name 7), (.name 8)]) (ivEnum (avCons (evBin ixAny (evFld "pair" (evVar 0)) (evC (.int 1))) avNil)) tvTrue (evIte (tvOf (evBin opEq (evVar 7) (evVar 1))) (evBf tupA (avCons (evVar 4) avNil)) (evVar 8))))
  (svSeq (svRet (evMake "Program" phi_Program_init [] (avCons (evBin ixAny (evFld "pair" (evVar 0)) (evC (.int 0))) (avCons (evBf tupA (avCons (evVar 5) avNil)) avNil))))
  svNil))))
def phi_Program_with_show : Fn := runF 9 ev_Program_with_show
def ev_Holds_init : Sv := (svSeq (svFld "alive" (evF (evBf dctA (avCons (evVar 1) avNil))) (evVar 0))
  svNil)
def phi_Holds_init : FnI := runI 2 "Holds" ev_Holds_init
def ev_open_place : Sv := (svSeq (svSet 4 (evCall phi_met [.non] (avCons (evVar 0) (avCons (evVar 1) (avCons (evVar 2) (avCons (evVar 3) avNil))))))
  (svSeq (svIf (tvOr (tvOf (evBin opIs (evVar 4) (evC .non))) (tvOf (evBin opEq (evVar 4) (evC c_AHEAD)))) (svSeq (svRet (evVar 4))
  svNil) svNil)
  (svSeq (svRet (evIte (tvOf (evBin opEq (evMeth "show_of" (tabF [("Program", phi_Program_show_of)]) [] (evVar 0) (avCons (evVar 4) (avCons (evBin ixAny (evVar 3) (evC (.int 2))) avNil))) (evC (.str "hidden")))) (evC .non) (evVar 4)))
  svNil)))
def phi_open_place : Fn := runF 5 ev_open_place
def ev_copied_from : Sv := (svSeq (svSet 2 (evLrg1 (evBf (lenA tabLen) (avCons (evProp "Program" phi_Program_modules (evVar 0)) avNil))))
  (svSeq (svSet 3 (evLc kpV [4] (.name 4) (ivAny (evVar 2)) (tvOf (evBin opIn (evMeth "show_of" (tabF [("Program", phi_Program_show_of)]) [] (evVar 0) (avCons (evVar 4) (avCons (evVar 1) avNil))) (evTup (avCons (evC (.str "shown")) (avCons (evC (.str "protected")) avNil))))) (evVar 4)))
  (svSeq (svRet (evBin ixAny (evLst (avStarV (evVar 3) (avStarV (evLc kpV [4] (.name 4) (ivAny (evVar 2)) (tvOf (evBin opEq (evMeth "show_of" (tabF [("Program", phi_Program_show_of)]) [] (evVar 0) (avCons (evVar 4) (avCons (evVar 1) avNil))) (evC (.str "weak")))) (evVar 4)) avNil))) (evC (.int 0))))
  svNil)))
def phi_copied_from : Fn := runF 5 ev_copied_from
def ev_source : Sv := (svSeq (svSet 4 (evAnd (evBin opEq (evVar 3) (evC (.int 0))) (evBin opIn (evTup (avCons (evC (.str "copy")) (avCons (evC (.int 0)) (avCons (evBin ixAny (evVar 2) (evC (.int 2))) avNil)))) (evVar 1))))
  (svSeq (svRet (evIte (tvOf (evVar 4)) (evCall phi_copied_from [] (avCons (evVar 0) (avCons (evBin ixAny (evVar 2) (evC (.int 2))) avNil))) (evVar 3)))
  svNil))
def phi_source : Fn := runF 5 ev_source
def ev_is_bad : Sv := (svSeq (svSet 5 (evCall phi_met [.non] (avCons (evVar 0) (avCons (evVar 1) (avCons (evVar 2) (avCons (evVar 4) avNil))))))
  (svSeq (svIf (tvOf (evBin opEq (evVar 3) (evC (.str "found")))) (svSeq (svRet (evAnd (evBin opIsNot (evBin ixAny (evVar 4) (evC (.int 0))) (evC .non)) (evBin opIs (evVar 5) (evC .non))))
  svNil) svNil)
  (svSeq (svRet (evBin opNe (evCall phi_source [] (avCons (evVar 0) (avCons (evVar 1) (avCons (evVar 4) (avCons (evVar 5) avNil))))) (evCall phi_met [.non] (avCons (evVar 0) (avCons (evTup avNil) (avCons (evVar 2) (avCons (evVar 4) avNil)))))))
  svNil)))
def phi_is_bad : Fn := runF 6 ev_is_bad
def ev_are_bad : Sv := (svSeq (svIf (tvOf (evBin opIn (evVar 3) (evTup (avCons (evC (.str "same")) (avCons (evC (.str "found")) avNil))))) (svSeq (svRet (evAnd (evBin opEq (evBf (lenA tabLen) (avCons (evVar 4) avNil)) (evC (.int 1))) (evCall phi_is_bad [] (avCons (evVar 0) (avCons (evVar 1) (avCons (evVar 2) (avCons (evVar 3) (avCons (evBin ixAny (evVar 4) (evC (.int 0))) avNil))))))))
  svNil) svNil)
  (svSeq (svIf (tvOr (tvOf (evBin opNe (evBf (lenA tabLen) (avCons (evVar 4) avNil)) (evC (.int 2)))) (tvOr (tvOf (evBin opNe (evBin ixAny (evBin ixAny (evVar 4) (evC (.int 0))) (evC (.int 2))) (evBin ixAny (evBin ixAny (evVar 4) (evC (.int 1))) (evC (.int 2))))) (tvNot (tvOf (evBf allD (avCons (evLc kpV [6] (.name 6) (ivAny (evVar 4)) tvTrue (evBin opEq (evBin ixAny (evVar 6) (evC (.int 1))) (evBin ixAny (evC (.dct (strD kv_WORDS))) (evVar 3)))) avNil)))))) (svSeq (svRet (evC (.bl false)))
  svNil) svNil)
  (svSeq (svSet 5 (evLc kpV [6] (.name 6) (ivAny (evVar 4)) tvTrue (evCall phi_open_place [] (avCons (evVar 0) (avCons (evVar 1) (avCons (evVar 2) (avCons (evVar 6) avNil)))))))
  (svSeq (svRet (evAnd (evBin opNotIn (evC .non) (evVar 5)) (evBin opNe (evBin ixAny (evVar 5) (evC (.int 0))) (evBin ixAny (evVar 5) (evC (.int 1))))))
  svNil))))
def phi_are_bad : Fn := runF 7 ev_are_bad
def ev_uses_in : Sv := (svSeq (svRet (evLc kpV [2, 3] (.tup [(.name 2), (.name 3)]) (ivAny (evBin ixAny (evMeth "found" (tabF [("Program", phi_Program_found)]) [] (evVar 0) (avCons (evBin ixAny (evVar 1) (evC (.int 0))) (avCons (evBin ixAny (evVar 1) (evC (.int 1))) avNil))) (evC (.int 2)))) tvTrue (evTup (avCons (evBin ixAny (evVar 1) (evC (.int 0))) (avCons (evVar 2) (avCons (evVar 3) avNil))))))
  svNil)
def phi_uses_in : Fn := runF 4 ev_uses_in
def ev_outer_uses : Sv := (svSeq (svSet 1 (evLstM avNil))
  (svSeq (svFor (.tup [(.name 2), (.name 3)]) (ivEnum (avCons (evProp "Program" phi_Program_sorts (evVar 0)) avNil)) (svSeq (svExpr (evMt .list extD (evVar 1) (avCons (evLst (avCons (evTup (avCons (evC .non) (avCons (evIte (tvOf (evBin opEq (evVar 3) (evC (.str "call")))) (evC (.str "call")) (evC (.str "read"))) (avCons (evVar 2) avNil)))) (avCons (evTup (avCons (evC .non) (avCons (evC (.str "take")) (avCons (evVar 2) avNil)))) avNil))) avNil)))
  svNil))
  (svSeq (svRet (evVar 1))
  svNil)))
def phi_outer_uses : Fn := runF 4 ev_outer_uses
def ev_uses_of : Sv := (svSeq (svSet 2 (evDc [4] (.name 4) (ivAny (evCall phi_outer_uses [] (avCons (evVar 0) avNil))) tvTrue (evVar 4) (evC (.bl true))))
  (svSeq (svFor (.name 3) (ivAny (evVar 1)) (svSeq (svFor (.name 4) (ivAny (evCall phi_uses_in [] (avCons (evVar 0) (avCons (evVar 3) avNil)))) (svSeq (svPut (evC (.bl true)) (evVar 2) (evVar 4))
  svNil))
  svNil))
  (svSeq (svRet (evBf lstA (avCons (evVar 2) avNil)))
  svNil)))
def phi_uses_of : Fn := runF 5 ev_uses_of
def ev_breaking : Sv := (svSeq (svSet 5 (evCall phi_uses_of [] (avCons (evVar 0) (avCons (evVar 4) avNil))))
  (svSeq (svIf (tvOf (evBin opIn (evVar 3) (evTup (avCons (evC (.str "same")) (avCons (evC (.str "found")) avNil))))) (svSeq (svSet 8 (evLc kpV [7] (.name 7) (ivAny (evVar 5)) (tvOf (evCall phi_is_bad [] (avCons (evVar 0) (avCons (evVar 1) (avCons (evVar 2) (avCons (evVar 3) (avCons (evVar 7) avNil))))))) (evVar 7)))
  (svSeq (svRet (evIte (tvOf (evBin opNe (evVar 8) (evLst avNil))) (evSlice (evVar 8) ovNone (ovSome (evC (.int 1)))) (evC .non)))
  svNil)) svNil)
  (svSeq (svSet 6 evDct0)
  (svSeq (svFor (.name 7) (ivAny (evVar 5)) (svSeq (svIf (tvAnd (tvOf (evBin opEq (evBin ixAny (evVar 7) (evC (.int 1))) (evBin ixAny (evC (.dct (strD kv_WORDS))) (evVar 3)))) (tvOf (evBin opIsNot (evCall phi_open_place [] (avCons (evVar 0) (avCons (evVar 1) (avCons (evVar 2) (avCons (evVar 7) avNil))))) (evC .non)))) (svSeq (svSet 9 (evMt .dict sdfD (evVar 6) (avCons (evBin ixAny (evVar 7) (evC (.int 2))) (avCons (evVar 7) avNil))))
  (svSeq (svIf (tvOf (evCall phi_are_bad [] (avCons (evVar 0) (avCons (evVar 1) (avCons (evVar 2) (avCons (evVar 3) (avCons (evLst (avCons (evVar 9) (avCons (evVar 7) avNil))) avNil))))))) (svSeq (svRet (evLst (avCons (evVar 9) (avCons (evVar 7) avNil))))
  svNil) svNil)
  svNil)) svNil)
  svNil))
  (svSeq (svRet (evC .non))
  svNil)))))
def phi_breaking : Fn := runF 10 ev_breaking
def ev_Program_bodies : Sv := (svSeq (svSet 1 (evLstM avNil))
  (svSeq (svFor (.tup [(.name 2), (.name 3)]) (ivEnum (avCons (evBin ixAny (evFld "pair" (evVar 0)) (evC (.int 1))) avNil)) (svSeq (svExpr (evMt .list extD (evVar 1) (avCons (evLc kpV [4] (.name 4) (ivAny (evVar 3)) (tvOf (evBin opEq (evBin ixAny (evBin ixAny (evFld "pair" (evVar 0)) (evC (.int 0))) (evBin ixAny (evVar 4) (evC (.int 0)))) (evC (.str "call")))) (evTup (avCons (evVar 2) (avCons (evBin ixAny (evVar 4) (evC (.int 0))) avNil)))) avNil)))
  svNil))
  (svSeq (svRet (evVar 1))
  svNil)))
def phi_Program_bodies : Fn := runF 5 ev_Program_bodies
def ev_is_body : Sv := (svSeq (svRet (evBin opIn (evVar 1) (evMeth "bodies" (tabF [("Program", phi_Program_bodies)]) [] (evVar 0) avNil)))
  svNil)
def phi_is_body : Fn := runF 2 ev_is_body
def ev_are_closed : Sv := (svSeq (svIf (tvNot (tvOf (evBf allD (avCons (evLc kpV [6] (.name 6) (ivAny (evVar 3)) tvTrue (evCall phi_is_body [] (avCons (evVar 0) (avCons (evVar 6) avNil)))) avNil)))) (svSeq (svRet (evC (.bl false)))
  svNil) svNil)
  (svSeq (svIf (tvNot (tvOf (evBf allD (avCons (evLc kpV [7, 8] (.tup [(.name 7), (.name 8)]) (ivZip (avCons (evVar 3) (avCons (evSlice (evVar 3) (ovSome (evC (.int 1))) ovNone) avNil))) tvTrue (evBin opLt (evVar 7) (evVar 8))) avNil)))) (svSeq (svRet (evC (.bl false)))
  svNil) svNil)
  (svSeq (svFor (.name 4) (ivAny (evCall phi_uses_of [] (avCons (evVar 0) (avCons (evVar 3) avNil)))) (svSeq (svIf (tvOf (evBin opEq (evBin ixAny (evVar 4) (evC (.int 1))) (evC (.str "call")))) (svSeq (svSet 5 (evCall phi_met [.non] (avCons (evVar 0) (avCons (evVar 1) (avCons (evVar 2) (avCons (evVar 4) avNil))))))
  (svSeq (svIf (tvAnd (tvOf (evBin opIsNot (evVar 5) (evC .non))) (tvAnd (tvOf (evBin opNe (evVar 5) (evC c_AHEAD))) (tvOf (evBin opNotIn (evTup (avCons (evVar 5) (avCons (evBin ixAny (evVar 4) (evC (.int 2))) avNil))) (evVar 3))))) (svSeq (svRet (evC (.bl false)))
  svNil) svNil)
  svNil)) svNil)
  svNil))
  (svSeq (svRet (evC (.bl true)))
  svNil))))
def phi_are_closed : Fn := runF 9 ev_are_closed
def ev_Holds_is_calm : Sv := (svSeq (svSet 5 (evBin ixAny (evFld "alive" (evVar 0)) (evVar 4)))
  (svSeq (svRet (evAnd (evCall phi_are_closed [] (avCons (evVar 1) (avCons (evVar 2) (avCons (evVar 4) (avCons (evVar 5) avNil))))) (evBin opIs (evCall phi_breaking [] (avCons (evVar 1) (avCons (evVar 2) (avCons (evVar 4) (avCons (evVar 3) (avCons (evVar 5) avNil)))))) (evC .non))))
  svNil))
def phi_Holds_is_calm : Fn := runF 6 ev_Holds_is_calm
def ev_lots_of : Sv := (svSeq (svSet 1 (evLst (avCons (evTup avNil) avNil)))
  (svSeq (svFor (.name 2) (ivRange1 (avCons (evBf (lenA tabLen) (avCons (evVar 0) avNil)) avNil)) (svSeq (svSet 1 (evLc2 kpV [3, 4] [4] (.name 3) (ivAny (evVar 1)) tvTrue (.name 4) (ivAny (evTup (avCons (evC (.int 0)) (avCons (evC (.int 1)) (avCons (evC (.int 2)) avNil))))) tvTrue (evTup (avStarV (evVar 3) (avCons (evVar 4) avNil)))))
  svNil))
  (svSeq (svRet (evSortK (evTup (avCons (evBf (lenA tabLen) (avCons (evLc kpV [1] (.name 1) (ivAny (evVar 0)) (tvOf (evBin opGt (evVar 1) (evC (.int 0)))) (evVar 1)) avNil)) (avCons (evVar 0) avNil))) 2 [] (avCons (evVar 1) avNil)))
  svNil)))
def phi_lots_of : Fn := runF 5 ev_lots_of
def ev_check_wish_judging : Sv := (svSeq (svExpr (evCall phi_check_choice [] (avCons (evVar 0) (avCons (evVar 1) avNil))))
  (svSeq (svIf (tvNot (tvOf (evCall phi_is_word [] (avCons (evVar 2) (avCons (evC c_WISHES) avNil))))) (svSeq (svRaise "BadWish" (evC (.str "not a wish")))
  svNil) svNil)
  svNil))
def phi_check_wish_judging : Fn := runF 3 ev_check_wish_judging
def ev_Holds_shows : Sv := (svSeq (svExpr (evCall phi_check_wish_judging [] (avCons (evVar 1) (avCons (evVar 2) (avCons (evVar 3) avNil)))))
  (svSeq (svSet 4 (evCall phi_lots_of [] (avCons (evVar 1) avNil)))
  (svSeq (svIf (tvOr (tvOf (evBin opNe (evBf (lenA tabLen) (avCons (evFld "alive" (evVar 0)) avNil)) (evBf (lenA tabLen) (avCons (evVar 4) avNil)))) (tvNot (tvOf (evBf allD (avCons (evLc kpV [5] (.name 5) (ivAny (evVar 4)) tvTrue (evBin opIn (evVar 5) (evFld "alive" (evVar 0)))) avNil))))) (svSeq (svRet (evC (.bl false)))
  svNil) svNil)
  (svSeq (svRet (evBf allD (avCons (evLc kpV [5] (.name 5) (ivAny (evVar 4)) tvTrue (evMeth "is_calm" (tabF [("Holds", phi_Holds_is_calm)]) [] (evVar 0) (avCons (evVar 1) (avCons (evVar 2) (avCons (evVar 3) (avCons (evVar 5) avNil)))))) avNil)))
  svNil))))
def phi_Holds_shows : Fn := runF 6 ev_Holds_shows
def ev_is_use : Sv := (svSeq (svIf (tvOr (tvNot (tvOf (evIsi (isaB ["tuple"] owns) (evVar 1)))) (tvOr (tvOf (evBin opNe (evBf (lenA tabLen) (avCons (evVar 1) avNil)) (evC (.int 3)))) (tvNot (tvOf (evIsi (isaB ["str"] owns) (evBin ixAny (evVar 1) (evC (.int 1)))))))) (svSeq (svRet (evC (.bl false)))
  svNil) svNil)
  (svSeq (svIf (tvNot (tvOf (evCall phi_is_number [] (avCons (evBin ixAny (evVar 1) (evC (.int 2))) (avCons (evC (.int 0)) (avCons (evBin subD (evBf (lenA tabLen) (avCons (evVar 0) avNil)) (evC (.int 1))) avNil)))))) (svSeq (svRet (evC (.bl false)))
  svNil) svNil)
  (svSeq (svIf (tvOf (evBin opIs (evBin ixAny (evVar 1) (evC (.int 0))) (evC .non))) (svSeq (svRet (evBin opIn (evVar 1) (evCall phi_outer_uses [] (avCons (evVar 0) avNil))))
  svNil) svNil)
  (svSeq (svRet (evAnd (evCall phi_is_number [] (avCons (evBin ixAny (evVar 1) (evC (.int 0))) (avCons (evC (.int 0)) (avCons (evBin subD (evBf (lenA tabLen) (avCons (evProp "Program" phi_Program_modules (evVar 0)) avNil)) (evC (.int 1))) avNil)))) (evBin opIn (evVar 1) (evMeth "uses" (tabF [("Program", phi_Program_uses)]) [] (evVar 0) avNil))))
  svNil))))
def phi_is_use : Fn := runF 2 ev_is_use
def ev_is_way : Sv := (svSeq (svAsg (.tup [(.name 6), (.name 7)]) (evVar 3))
  (svSeq (svSet 4 (evC .non))
  (svSeq (svFor (.name 5) (ivAny (evVar 6)) (svSeq (svSet 8 (evTup (avCons (evIte (tvOf (evBin opIs (evVar 4) (evC .non))) (evC .non) (evBin ixAny (evVar 4) (evC (.int 0)))) (avCons (evC (.str "call")) (avCons (evVar 5) avNil)))))
  (svSeq (svIf (tvOr (tvNot (tvOf (evCall phi_is_use [] (avCons (evVar 0) (avCons (evVar 8) avNil))))) (tvAnd (tvOf (evBin opIsNot (evVar 4) (evC .non))) (tvOf (evBin opNotIn (evVar 8) (evCall phi_uses_in [] (avCons (evVar 0) (avCons (evVar 4) avNil))))))) (svSeq (svRet (evC (.bl false)))
  svNil) svNil)
  (svSeq (svSet 9 (evCall phi_met [.non] (avCons (evVar 0) (avCons (evVar 1) (avCons (evVar 2) (avCons (evVar 8) avNil))))))
  (svSeq (svIf (tvOr (tvOf (evBin opIs (evVar 9) (evC .non))) (tvOf (evBin opEq (evVar 9) (evC c_AHEAD)))) (svSeq (svRet (evC (.bl false)))
  svNil) svNil)
  (svSeq (svSet 4 (evTup (avCons (evVar 9) (avCons (evVar 5) avNil))))
  svNil))))))
  (svSeq (svIf (tvNot (tvOf (evCall phi_is_use [] (avCons (evVar 0) (avCons (evVar 7) avNil))))) (svSeq (svRet (evC (.bl false)))
  svNil) svNil)
  (svSeq (svRet (evIte (tvOf (evBin opIs (evVar 4) (evC .non))) (evBin opIs (evBin ixAny (evVar 7) (evC (.int 0))) (evC .non)) (evBin opIn (evVar 7) (evCall phi_uses_in [] (avCons (evVar 0) (avCons (evVar 4) avNil))))))
  svNil)))))
def phi_is_way : Fn := runF 10 ev_is_way
def ev_Fails_shows : Sv := (svSeq (svExpr (evCall phi_check_wish_judging [] (avCons (evVar 1) (avCons (evVar 2) (avCons (evVar 3) avNil)))))
  (svSeq (svIf (tvNot (tvOf (evCall phi_is_lot [] (avCons (evVar 1) (avCons (evFld "ahead" (evVar 0)) avNil))))) (svSeq (svRet (evC (.bl false)))
  svNil) svNil)
  (svSeq (svIf (tvNot (tvOf (evBf allD (avCons (evLc kpV [4] (.name 4) (ivAny (evFld "ways" (evVar 0))) tvTrue (evCall phi_is_way [] (avCons (evVar 1) (avCons (evVar 2) (avCons (evFld "ahead" (evVar 0)) (avCons (evVar 4) avNil)))))) avNil)))) (svSeq (svRet (evC (.bl false)))
  svNil) svNil)
  (svSeq (svRet (evCall phi_are_bad [] (avCons (evVar 1) (avCons (evVar 2) (avCons (evFld "ahead" (evVar 0)) (avCons (evVar 3) (avCons (evLc kpV [4] (.name 4) (ivAny (evFld "ways" (evVar 0))) tvTrue (evBin ixAny (evVar 4) (evC (.int 1)))) avNil)))))))
  svNil))))
def phi_Fails_shows : Fn := runF 5 ev_Fails_shows
def ev_Fails_init : Sv := (svSeq (svFld "ahead" (evVar 1) (evVar 0))
  (svSeq (svFld "ways" (evVar 2) (evVar 0))
  svNil))
def phi_Fails_init : FnI := runI 3 "Fails" ev_Fails_init
def ev_way_to : Sv := (svSeq (svIf (tvOf (evBin opIs (evBin ixAny (evVar 2) (evC (.int 0))) (evC .non))) (svSeq (svRet (evTup (avCons (evTup avNil) (avCons (evVar 2) avNil))))
  svNil) svNil)
  (svSeq (svSet 3 (evLc kpV [4] (.name 4) (ivAny (evVar 1)) (tvOf (evBin opIn (evVar 2) (evCall phi_uses_in [] (avCons (evVar 0) (avCons (evVar 4) avNil))))) (evVar 4)))
  (svSeq (svRet (evTup (avCons (evBin ixAny (evVar 1) (evBin ixAny (evVar 3) (evC (.int 0)))) (avCons (evVar 2) avNil))))
  svNil)))
def phi_way_to : Fn := runF 5 ev_way_to
def ev_rows_to : Sv := (svSeq (svPar 3 4 (avCons evDct0 (avCons (evLc kpM [8] (.name 8) (ivAny (evCall phi_outer_uses [] (avCons (evVar 0) avNil))) (tvOf (evBin opEq (evBin ixAny (evVar 8) (evC (.int 1))) (evC (.str "call")))) (evTup (avCons (evTup avNil) (avCons (evVar 8) avNil)))) avNil)))
  (svSeq (svWhile 2000 (tvOf (evBin opNe (evVar 4) (evLst avNil))) (svSeq (svAsg (.tup [(.name 7), (.name 8)]) (evMt .list popD (evVar 4) (avCons (evC (.int 0)) avNil)))
  (svSeq (svSet 5 (evCall phi_met [.non] (avCons (evVar 0) (avCons (evVar 1) (avCons (evVar 2) (avCons (evVar 8) avNil))))))
  (svSeq (svSet 6 (evTup (avCons (evVar 5) (avCons (evBin ixAny (evVar 8) (evC (.int 2))) avNil))))
  (svSeq (svIf (tvAnd (tvOf (evBin opIsNot (evVar 5) (evC .non))) (tvAnd (tvOf (evBin opNe (evVar 5) (evC c_AHEAD))) (tvOf (evBin opNotIn (evVar 6) (evVar 3))))) (svSeq (svPut (evTup (avStarV (evVar 7) (avCons (evBin ixAny (evVar 8) (evC (.int 2))) avNil))) (evVar 3) (evVar 6))
  (svSeq (svExpr (evMt .list extD (evVar 4) (avCons (evLc kpV [9] (.name 9) (ivAny (evCall phi_uses_in [] (avCons (evVar 0) (avCons (evVar 6) avNil)))) (tvOf (evBin opEq (evBin ixAny (evVar 9) (evC (.int 1))) (evC (.str "call")))) (evTup (avCons (evBin ixAny (evVar 3) (evVar 6)) (avCons (evVar 9) avNil)))) avNil)))
  svNil)) svNil)
  svNil)))))
  (svSeq (svRet (evVar 3))
  svNil)))
def phi_rows_to : Fn := runF 10 ev_rows_to
def ev_live_bodies : Sv := (svSeq (svPar 3 4 (avCons evDct0 (avCons (evLc kpM [5] (.name 5) (ivAny (evCall phi_outer_uses [] (avCons (evVar 0) avNil))) (tvOf (evBin opEq (evBin ixAny (evVar 5) (evC (.int 1))) (evC (.str "call")))) (evVar 5)) avNil)))
  (svSeq (svWhile 2000 (tvOf (evBin opNe (evVar 4) (evLst avNil))) (svSeq (svSet 5 (evMt .list popD (evVar 4) avNil))
  (svSeq (svSet 6 (evCall phi_met [.non] (avCons (evVar 0) (avCons (evVar 1) (avCons (evVar 2) (avCons (evVar 5) avNil))))))
  (svSeq (svSet 7 (evTup (avCons (evVar 6) (avCons (evBin ixAny (evVar 5) (evC (.int 2))) avNil))))
  (svSeq (svIf (tvAnd (tvOf (evBin opIsNot (evVar 6) (evC .non))) (tvAnd (tvOf (evBin opNe (evVar 6) (evC c_AHEAD))) (tvOf (evBin opNotIn (evVar 7) (evVar 3))))) (svSeq (svPut (evC (.bl true)) (evVar 3) (evVar 7))
  (svSeq (svExpr (evMt .list extD (evVar 4) (avCons (evLc kpV [8] (.name 8) (ivAny (evCall phi_uses_in [] (avCons (evVar 0) (avCons (evVar 7) avNil)))) (tvOf (evBin opEq (evBin ixAny (evVar 8) (evC (.int 1))) (evC (.str "call")))) (evVar 8)) avNil)))
  svNil)) svNil)
  svNil)))))
  (svSeq (svRet (evBf srtA (avCons (evVar 3) avNil)))
  svNil)))
def phi_live_bodies : Fn := runF 9 ev_live_bodies
def ev_judged : Sv := (svSeq (svSet 3 evDct0)
  (svSeq (svFor (.name 4) (ivAny (evCall phi_lots_of [] (avCons (evVar 0) avNil))) (svSeq (svSet 5 (evCall phi_live_bodies [] (avCons (evVar 0) (avCons (evVar 1) (avCons (evVar 4) avNil)))))
  (svSeq (svSet 6 (evCall phi_breaking [] (avCons (evVar 0) (avCons (evVar 1) (avCons (evVar 4) (avCons (evVar 2) (avCons (evVar 5) avNil)))))))
  (svSeq (svIf (tvOf (evBin opIsNot (evVar 6) (evC .non))) (svSeq (svSet 7 (evCall phi_rows_to [] (avCons (evVar 0) (avCons (evVar 1) (avCons (evVar 4) avNil)))))
  (svSeq (svRet (evMake "Fails" phi_Fails_init [] (avCons (evVar 4) (avCons (evBf tupA (avCons (evLc kpV [8] (.name 8) (ivAny (evVar 6)) tvTrue (evCall phi_way_to [] (avCons (evVar 0) (avCons (evVar 7) (avCons (evVar 8) avNil))))) avNil)) avNil))))
  svNil)) svNil)
  (svSeq (svPut (evBf tupA (avCons (evVar 5) avNil)) (evVar 3) (evVar 4))
  svNil)))))
  (svSeq (svRet (evMake "Holds" phi_Holds_init [] (avCons (evVar 3) avNil)))
  svNil)))
def phi_judged : Fn := runF 9 ev_judged
def ev_judge : Sv := (svSeq (svExpr (evCall phi_check_wish_judging [] (avCons (evVar 0) (avCons (evVar 1) (avCons (evVar 2) avNil)))))
  (svSeq (svRet (evCall phi_judged [] (avCons (evVar 0) (avCons (evVar 1) (avCons (evVar 2) avNil)))))
  svNil))
def phi_judge : Fn := runF 3 ev_judge
def ev_does_hold : Sv := (svSeq (svRet (evIsi (isaO "Holds" owns) (evCall phi_judge [] (avCons (evVar 0) (avCons (evVar 1) (avCons (evVar 2) avNil))))))
  svNil)
def phi_does_hold : Fn := runF 3 ev_does_hold
def ev_least_lot : Sv := (svSeq (svSet 3 (evCall phi_judge [] (avCons (evVar 0) (avCons (evVar 1) (avCons (evVar 2) avNil)))))
  (svSeq (svRet (evIte (tvOf (evIsi (isaO "Fails" owns) (evVar 3))) (evFld "ahead" (evVar 3)) (evC .non)))
  svNil))
def phi_least_lot : Fn := runF 4 ev_least_lot
def ev_meet : Sv := (svSeq (svExpr (evCall phi_check_choice [] (avCons (evVar 0) (avCons (evVar 1) avNil))))
  (svSeq (svExpr (evCall phi_check_lot [] (avCons (evVar 0) (avCons (evVar 2) avNil))))
  (svSeq (svIf (tvNot (tvOf (evCall phi_is_use [] (avCons (evVar 0) (avCons (evVar 3) avNil))))) (svSeq (svRaise "BadUse" (evC (.str "not a use")))
  svNil) svNil)
  (svSeq (svRet (evCall phi_met [.non] (avCons (evVar 0) (avCons (evVar 1) (avCons (evVar 2) (avCons (evVar 3) avNil))))))
  svNil))))
def phi_meet : Fn := runF 4 ev_meet
def ev_live : Sv := (svSeq (svExpr (evCall phi_check_choice [] (avCons (evVar 0) (avCons (evVar 1) avNil))))
  (svSeq (svExpr (evCall phi_check_lot [] (avCons (evVar 0) (avCons (evVar 2) avNil))))
  (svSeq (svRet (evCall phi_live_bodies [] (avCons (evVar 0) (avCons (evVar 1) (avCons (evVar 2) avNil)))))
  svNil)))
def phi_live : Fn := runF 3 ev_live
def ev_table : Sv := (svSeq (svExpr (evCall phi_check_choice [] (avCons (evVar 0) (avCons (evVar 1) avNil))))
  (svSeq (svIf (tvOf (evBin opIsNot (evVar 2) (evC .non))) (svSeq (svExpr (evCall phi_check_lot [] (avCons (evVar 0) (avCons (evVar 2) avNil))))
  svNil) svNil)
  (svSeq (svSet 3 (evIte (tvOf (evBin opIs (evVar 2) (evC .non))) (evCall phi_lots_of [] (avCons (evVar 0) avNil)) (evLst (avCons (evVar 2) avNil))))
  (svSeq (svSet 4 evDct0)
  (svSeq (svFor (.name 5) (ivAny (evMeth "uses" (tabF [("Program", phi_Program_uses)]) [] (evVar 0) avNil)) (svSeq (svSet 6 (evDc [7] (.name 7) (ivAny (evVar 3)) tvTrue (evCall phi_met [.non] (avCons (evVar 0) (avCons (evVar 1) (avCons (evVar 7) (avCons (evVar 5) avNil))))) (evC (.bl true))))
  (svSeq (svPut (evBf srtA (avCons (evLc kpV [8] (.name 8) (ivAny (evVar 6)) (tvOf (evBin opIsNot (evVar 8) (evC .non))) (evVar 8)) avNil)) (evVar 4) (evVar 5))
  svNil)))
  (svSeq (svRet (evVar 4))
  svNil))))))
def phi_table : Fn := runF 9 ev_table
def ev_lots : Sv := (svSeq (svExpr (evCall phi_check_program [] (avCons (evVar 0) avNil)))
  (svSeq (svRet (evCall phi_lots_of [] (avCons (evVar 0) avNil)))
  svNil))
def phi_lots : Fn := runF 1 ev_lots
def ev_shortenings_of : Sv := (svSeq (svSet 1 (evLstM avNil))
  (svSeq (svFor (.name 2) (ivAny (evTup (avCons (evC (.str "copy")) (avCons (evC (.str "direct")) (avCons (evC (.str "place")) avNil))))) (svSeq (svFor (.name 3) (ivRange1 (avCons (evBf (lenA tabLen) (avCons (evProp "Program" phi_Program_modules (evVar 0)) avNil)) avNil)) (svSeq (svExpr (evMt .list extD (evVar 1) (avCons (evLc kpV [5] (.name 5) (ivRange1 (avCons (evBf (lenA tabLen) (avCons (evVar 0) avNil)) avNil)) tvTrue (evTup (avCons (evVar 2) (avCons (evVar 3) (avCons (evVar 5) avNil))))) avNil)))
  svNil))
  svNil))
  (svSeq (svRet (evLc kpV [4] (.name 4) (ivAny (evVar 1)) (tvOf (evCall phi_can_shorten [] (avCons (evVar 0) (avCons (evVar 4) avNil)))) (evVar 4)))
  svNil)))
def phi_shortenings_of : Fn := runF 6 ev_shortenings_of
def ev_shortenings : Sv := (svSeq (svExpr (evCall phi_check_program [] (avCons (evVar 0) avNil)))
  (svSeq (svRet (evCall phi_shortenings_of [] (avCons (evVar 0) avNil)))
  svNil))
def phi_shortenings : Fn := runF 1 ev_shortenings
def ev__law_asked : Sv := (svSeq (svIf (tvOf (evBin opIn (evVar 0) (evTup (avCons (evC (.str "lots")) (avCons (evC (.str "shorts")) avNil))))) (svSeq (svRet (evIte (tvOf (evBin opEq (evVar 0) (evC (.str "lots")))) (evCall phi_lots [] (avCons (evVar 1) avNil)) (evCall phi_shortenings [] (avCons (evVar 1) avNil))))
  svNil) svNil)
  (svSeq (svIf (tvOf (evBin opIn (evVar 0) (evTup (avCons (evC (.str "live")) (avCons (evC (.str "table")) avNil))))) (svSeq (svRet (evIte (tvOf (evBin opEq (evVar 0) (evC (.str "live")))) (evCall phi_live [] (avCons (evVar 1) (avCons (evVar 2) (avCons (evVar 3) avNil)))) (evCallK phi_table (avCons (evVar 1) (avCons (evVar 2) avNil)) (avCons (evVar 3) avNil))))
  svNil) svNil)
  (svSeq (svIf (tvOf (evBin opIn (evVar 0) (evTup (avCons (evC (.str "meet")) (avCons (evC (.str "loader")) avNil))))) (svSeq (svRet (evIte (tvOf (evBin opEq (evVar 0) (evC (.str "meet")))) (evCall phi_meet [] (avCons (evVar 1) (avCons (evVar 2) (avCons (evVar 3) (avCons (evVar 4) avNil))))) (evMake "Loader" phi_Loader_init [] (avCons (evVar 1) (avCons (evVar 2) (avCons (evVar 3) (avCons (evVar 4) avNil)))))))
  svNil) svNil)
  (svSeq (svIf (tvOf (evBin opIn (evVar 0) (evTup (avCons (evC (.str "judge")) (avCons (evC (.str "holds")) (avCons (evC (.str "least")) avNil)))))) (svSeq (svRet (evIte (tvOf (evBin opEq (evVar 0) (evC (.str "judge")))) (evCall phi_judge [] (avCons (evVar 1) (avCons (evVar 2) (avCons (evVar 3) avNil)))) (evIte (tvOf (evBin opEq (evVar 0) (evC (.str "holds")))) (evCall phi_does_hold [] (avCons (evVar 1) (avCons (evVar 2) (avCons (evVar 3) avNil)))) (evCall phi_least_lot [] (avCons (evVar 1) (avCons (evVar 2) (avCons (evVar 3) avNil)))))))
  svNil) svNil)
  (svSeq (svIf (tvOf (evBin opIn (evVar 0) (evTup (avCons (evC (.str "show holds")) (avCons (evC (.str "show fails")) avNil))))) (svSeq (svRet (evIte (tvOf (evBin opEq (evVar 0) (evC (.str "show holds")))) (evMeth "shows" (tabF [("Holds", phi_Holds_shows), ("Fails", phi_Fails_shows)]) [] (evMake "Holds" phi_Holds_init [] (avCons evDct0 avNil)) (avCons (evVar 1) (avCons (evVar 2) (avCons (evVar 3) avNil)))) (evMeth "shows" (tabF [("Holds", phi_Holds_shows), ("Fails", phi_Fails_shows)]) [] (evMake "Fails" phi_Fails_init [] (avCons (evTup avNil) (avCons (evTup avNil) avNil))) (avCons (evVar 1) (avCons (evVar 2) (avCons (evVar 3) avNil))))))
  svNil) svNil)
  (svSeq (svIf (tvOf (evBin opIn (evVar 0) (evTup (avCons (evC (.str "item")) (avCons (evC (.str "show")) avNil))))) (svSeq (svRet (evIte (tvOf (evBin opEq (evVar 0) (evC (.str "item")))) (evIxO (tabF [("Program", phi_Program_getitem)]) (evVar 1) (evVar 2)) (evMeth "with_show" (tabF [("Program", phi_Program_with_show)]) [] (evVar 1) (avCons (evVar 2) (avCons (evVar 3) (avCons (evVar 4) avNil))))))
  svNil) svNil)
  (svSeq (svRet (evCall phi__law_loaders [] (avCons (evVar 0) (avCons (evVar 1) (avCons (evVar 2) avNil)))))
  svNil)))))))
def phi__law_asked : Fn := runF 5 ev__law_asked
def ev__law_refused : Sv := (svSeq (svTry (isxL isxs) (svSeq (svExpr (evCall phi__law_asked [] (avCons (evBin ixAny (evVar 0) (evC (.int 0))) (avCons (evBin ixAny (evVar 0) (evC (.int 1))) (avCons (evBin ixAny (evVar 0) (evC (.int 2))) (avCons (evBin ixAny (evVar 0) (evC (.int 3))) (avCons (evBin ixAny (evVar 0) (evC (.int 4))) avNil)))))))
  svNil) [⟨"BadProgram", fErr 1 "BadProgram" "part" fun d => .tup [.str "program", d]⟩, ⟨"BadName", fun _ _ => (svSeq (svRet (evC (.str "name")))
  svNil)⟩, ⟨"BadChoice", fun _ _ => (svSeq (svRet (evC (.str "choice")))
  svNil)⟩, ⟨"BadLot", fun _ _ => (svSeq (svRet (evC (.str "lot")))
  svNil)⟩, ⟨"BadUse", fun _ _ => (svSeq (svRet (evC (.str "use")))
  svNil)⟩, ⟨"BadWish", fun _ _ => (svSeq (svRet (evC (.str "wish")))
  svNil)⟩, ⟨"BadMode", fun _ _ => (svSeq (svRet (evC (.str "mode")))
  svNil)⟩])
  (svSeq (svRet (evC (.str "none")))
  svNil))
def phi__law_refused : Fn := runF 2 ev__law_refused
def ev_law : Sv := (svSeq (svSet 1 (evMake "Program" phi_Program_init [] (avCons (evTup (avCons (evC (.str "call")) (avCons (evC (.str "cell")) avNil))) (avCons (evTup (avCons (evTup (avCons (evTup (avCons (evC (.int 0)) (avCons (evC (.str "shown")) (avCons (evTup (avCons (evTup (avCons (evC (.str "read")) (avCons (evC (.int 1)) avNil))) (avCons (evTup (avCons (evC (.str "take")) (avCons (evC (.int 1)) avNil))) avNil))) avNil)))) avNil)) (avCons (evTup (avCons (evTup (avCons (evC (.int 1)) (avCons (evC (.str "hidden")) (avCons (evTup avNil) avNil)))) avNil)) avNil))) avNil))))
  (svSeq (svFor (.name 2) (ivAny (evBin addD (evCall phi__law_first [] (avCons (evVar 1) avNil)) (evCall phi__law_second [] (avCons (evVar 1) avNil)))) (svSeq (svIf (tvOf (evBin opNe (evCall phi__law_refused [] (avCons (evVar 2) avNil)) (evBin ixAny (evVar 2) (evC (.int 5))))) (svSeq (svRet (evC (.bl false)))
  svNil) svNil)
  svNil))
  (svSeq (svRet (evC (.bl true)))
  svNil)))
def phi_law : Fn := runF 3 ev_law
end MPK36
set_option Elab.async false
set_option linter.all false
set_option maxRecDepth 100000
set_option maxHeartbeats 1000000
namespace MPK36
open PySem PySem.Spec PyProof.Rows L2 MP
abbrev P : Program := PySem.Challenge.pw_laidahead_k36_refused
abbrev flds : List Str := ["ahead", "alive", "choice", "history", "lot", "mode", "pair", "program", "states", "ways"]
def d__law_first : He.DefD := topD P 103 "_law_first" [] []
def d_is_word : He.DefD := topD P 19 "is_word" [] []
def d_is_number : He.DefD := topD P 18 "is_number" [] []
def d_Program_len : He.DefD := topM P 25 3 "Program"
def d_is_lot : He.DefD := topD P 36 "is_lot" [] []
def d_check_lot : He.DefD := topD P 37 "check_lot" [] []
def d_Program_sorts : He.DefD := topM P 25 1 "Program"
def d_Program_found : He.DefD := topM P 25 7 "Program"
def d_Program_show_of : He.DefD := topM P 25 8 "Program"
def d_Program_modules : He.DefD := topM P 25 2 "Program"
def d_can_shorten : He.DefD := topD P 32 "can_shorten" [] []
def d_is_choice : He.DefD := topD P 34 "is_choice" [] []
def d_check_program : He.DefD := topD P 28 "check_program" [] []
def d_check_choice : He.DefD := topD P 35 "check_choice" [] []
def d_Loader_init : He.DefD := topM P 75 0 "Loader"
def d__law_second : He.DefD := topD P 104 "_law_second" [] []
def d_met : He.DefD := topD P 42 "met" [.non] []
def d_Loader_meets : He.DefD := topM P 75 3 "Loader"
def d_with_bound : He.DefD := topD P 78 "with_bound" [] []
def d_Program_uses : He.DefD := topM P 25 10 "Program"
def d_uses_there : He.DefD := topD P 77 "uses_there" [] []
def d_first_of : He.DefD := topD P 79 "first_of" [] []
def d_check_loader : He.DefD := topD P 76 "check_loader" [] []
def d_first_state : He.DefD := topD P 88 "first_state" [] []
def d_deeds_in : He.DefD := topD P 80 "deeds_in" [] []
def d_used : He.DefD := topD P 81 "used" [] []
def d_done : He.DefD := topD P 82 "done" [] []
def d_reach : He.DefD := topD P 87 "reach" [] []
def d_all_states : He.DefD := topD P 92 "all_states" [] []
def d_Steady_init : He.DefD := topM P 95 0 "Steady"
def d_breaks : He.DefD := topD P 83 "breaks" [] []
def d_check_wish_loading : He.DefD := topD P 93 "check_wish_loading" [] []
def d_Steady_shows : He.DefD := topM P 95 2 "Steady"
def d_is_deed : He.DefD := topD P 84 "is_deed" [] []
def d_walked : He.DefD := topD P 85 "walked" [] []
def d_Stale_shows : He.DefD := topM P 96 2 "Stale"
def d_Stale_init : He.DefD := topM P 96 0 "Stale"
def d_judge_loader : He.DefD := topD P 97 "judge_loader" [] []
def d_soonest : He.DefD := topD P 98 "soonest" [] []
def d_check_history : He.DefD := topD P 86 "check_history" [] []
def d_state_after : He.DefD := topD P 89 "state_after" [] []
def d_deeds : He.DefD := topD P 90 "deeds" [] []
def d_gives : He.DefD := topD P 91 "gives" [] []
def d__law_loaders : He.DefD := topD P 100 "_law_loaders" [] []
def d_Program_getitem : He.DefD := topM P 25 4 "Program"
def d_can_use : He.DefD := topD P 21 "can_use" [] []
def d_is_definition : He.DefD := topD P 22 "is_definition" [] []
def d_is_module : He.DefD := topD P 23 "is_module" [] []
def d_are_modules : He.DefD := topD P 24 "are_modules" [] []
def d_are_sorts : He.DefD := topD P 20 "are_sorts" [] []
def d_Program_init : He.DefD := topM P 25 0 "Program"
def d_Program_with_show : He.DefD := topM P 25 9 "Program"
def d_Holds_init : He.DefD := topM P 64 0 "Holds"
def d_open_place : He.DefD := topD P 55 "open_place" [] []
def d_copied_from : He.DefD := topD P 39 "copied_from" [] []
def d_source : He.DefD := topD P 40 "source" [] []
def d_is_bad : He.DefD := topD P 54 "is_bad" [] []
def d_are_bad : He.DefD := topD P 56 "are_bad" [] []
def d_uses_in : He.DefD := topD P 26 "uses_in" [] []
def d_outer_uses : He.DefD := topD P 27 "outer_uses" [] []
def d_uses_of : He.DefD := topD P 57 "uses_of" [] []
def d_breaking : He.DefD := topD P 58 "breaking" [] []
def d_Program_bodies : He.DefD := topM P 25 11 "Program"
def d_is_body : He.DefD := topD P 61 "is_body" [] []
def d_are_closed : He.DefD := topD P 62 "are_closed" [] []
def d_Holds_is_calm : He.DefD := topM P 64 3 "Holds"
def d_lots_of : He.DefD := topD P 41 "lots_of" [] []
def d_check_wish_judging : He.DefD := topD P 52 "check_wish_judging" [] []
def d_Holds_shows : He.DefD := topM P 64 2 "Holds"
def d_is_use : He.DefD := topD P 38 "is_use" [] []
def d_is_way : He.DefD := topD P 63 "is_way" [] []
def d_Fails_shows : He.DefD := topM P 65 2 "Fails"
def d_Fails_init : He.DefD := topM P 65 0 "Fails"
def d_way_to : He.DefD := topD P 60 "way_to" [] []
def d_rows_to : He.DefD := topD P 59 "rows_to" [] []
def d_live_bodies : He.DefD := topD P 43 "live_bodies" [] []
def d_judged : He.DefD := topD P 66 "judged" [] []
def d_judge : He.DefD := topD P 67 "judge" [] []
def d_does_hold : He.DefD := topD P 68 "does_hold" [] []
def d_least_lot : He.DefD := topD P 69 "least_lot" [] []
def d_meet : He.DefD := topD P 46 "meet" [] []
def d_live : He.DefD := topD P 47 "live" [] []
def d_table : He.DefD := topD P 48 "table" [] [("lot", .non)]
def d_lots : He.DefD := topD P 44 "lots" [] []
def d_shortenings_of : He.DefD := topD P 33 "shortenings_of" [] []
def d_shortenings : He.DefD := topD P 45 "shortenings" [] []
def d__law_asked : He.DefD := topD P 101 "_law_asked" [] []
def d__law_refused : He.DefD := topD P 102 "_law_refused" [] []
def d_law : He.DefD := topD P 105 "law" [] []
def x_BadProgram : XiD := ⟨"BadProgram", topM P 2 0 "BadProgram"⟩
def x_BadHistory : XiD := ⟨"BadHistory", topM P 9 0 "BadHistory"⟩
def fas : List He.Fa := [.glo "_law_first",
  .free "isinstance",
  .free "str",
  .glo "is_word",
  .exc "BadMode",
  .glo "BadMode",
  .free "bool",
  .free "int",
  .glo "is_number",
  .free "all",
  .free "len",
  .free "tuple",
  .glo "is_lot",
  .exc "BadLot",
  .glo "BadLot",
  .glo "check_lot",
  .free "zip",
  .exc "BadName",
  .glo "BadName",
  .free "any",
  .free "range",
  .glo "can_shorten",
  .glo "is_choice",
  .exc "BadChoice",
  .glo "BadChoice",
  .glo "Program",
  .glo "BadProgram",
  .glo "check_program",
  .glo "check_choice",
  .glo "Loader",
  .glo "_law_second",
  .free "sorted",
  .free "list",
  .glo "met",
  .free "dict",
  .free "enumerate",
  .glo "uses_there",
  .glo "with_bound",
  .glo "first_of",
  .glo "check_loader",
  .glo "first_state",
  .glo "deeds_in",
  .exc "TooLarge",
  .glo "TooLarge",
  .glo "used",
  .glo "done",
  .glo "reach",
  .glo "all_states",
  .glo "Steady",
  .glo "breaks",
  .exc "BadWish",
  .glo "BadWish",
  .glo "check_wish_loading",
  .glo "is_deed",
  .glo "walked",
  .glo "Stale",
  .glo "judge_loader",
  .glo "soonest",
  .glo "BadHistory",
  .glo "check_history",
  .glo "state_after",
  .glo "deeds",
  .glo "gives",
  .glo "_law_loaders",
  .glo "SORT_OF",
  .glo "can_use",
  .glo "is_definition",
  .glo "is_module",
  .glo "are_modules",
  .glo "are_sorts",
  .glo "Holds",
  .glo "open_place",
  .glo "WORDS",
  .glo "copied_from",
  .glo "source",
  .glo "is_bad",
  .glo "are_bad",
  .glo "uses_in",
  .glo "outer_uses",
  .glo "uses_of",
  .glo "breaking",
  .glo "is_body",
  .glo "are_closed",
  .glo "lots_of",
  .glo "check_wish_judging",
  .glo "is_use",
  .glo "is_way",
  .glo "Fails",
  .glo "way_to",
  .glo "rows_to",
  .glo "live_bodies",
  .glo "judged",
  .glo "judge",
  .glo "does_hold",
  .glo "least_lot",
  .exc "BadUse",
  .glo "BadUse",
  .glo "meet",
  .glo "live",
  .glo "table",
  .glo "lots",
  .glo "shortenings_of",
  .glo "shortenings",
  .glo "_law_asked",
  .glo "_law_refused",
  .glo "law",
  .cls "Program",
  .meth "Program" "__len__",
  .meth "Program" "found",
  .meth "Program" "show_of",
  .mkr "Loader",
  .cls "Loader",
  .meth "Loader" "meets",
  .meth "Program" "uses",
  .mkr "Steady",
  .cls "Steady",
  .meth "Steady" "shows",
  .cls "Stale",
  .meth "Stale" "shows",
  .mkr "Stale",
  .meth "Program" "__getitem__",
  .mkr "Program",
  .meth "Program" "with_show",
  .mkr "Holds",
  .meth "Program" "bodies",
  .cls "Holds",
  .meth "Holds" "is_calm",
  .meth "Holds" "shows",
  .cls "Fails",
  .meth "Fails" "shows",
  .mkr "Fails"]
def fns : List He.DefD := [d__law_first, d_is_word, d_is_number, d_Program_len, d_is_lot, d_check_lot, d_Program_found, d_Program_show_of, d_can_shorten, d_is_choice, d_check_program, d_check_choice, d_Loader_init, d__law_second, d_met, d_Loader_meets, d_with_bound, d_Program_uses, d_uses_there, d_first_of, d_check_loader, d_first_state, d_deeds_in, d_used, d_done, d_reach, d_all_states, d_Steady_init, d_breaks, d_check_wish_loading, d_Steady_shows, d_is_deed, d_walked, d_Stale_shows, d_Stale_init, d_judge_loader, d_soonest, d_check_history, d_state_after, d_deeds, d_gives, d__law_loaders, d_Program_getitem, d_can_use, d_is_definition, d_is_module, d_are_modules, d_are_sorts, d_Program_init, d_Program_with_show, d_Holds_init, d_open_place, d_copied_from, d_source, d_is_bad, d_are_bad, d_uses_in, d_outer_uses, d_uses_of, d_breaking, d_Program_bodies, d_is_body, d_are_closed, d_Holds_is_calm, d_lots_of, d_check_wish_judging, d_Holds_shows, d_is_use, d_is_way, d_Fails_shows, d_Fails_init, d_way_to, d_rows_to, d_live_bodies, d_judged, d_judge, d_does_hold, d_least_lot, d_meet, d_live, d_table, d_lots, d_shortenings_of, d_shortenings, d__law_asked, d__law_refused, d_law]
def pds : List PropD := [⟨"Program", "sorts", d_Program_sorts⟩, ⟨"Program", "modules", d_Program_modules⟩]
def exs (K : PySem.W.Frag) : List Bool := [(owns.all fun c => (He.Fa.cls c).ok K),
  noatB K owns flds,
  isaCk K owns (.type "str") (isaB ["str"] owns),
  gloK K "MODES" c_MODES,
  isaCk K owns (.type "bool") (isaB ["bool"] owns),
  isaCk K owns (.type "int") (isaB ["int", "bool"] owns),
  isaCk K owns (.type "tuple") (isaB ["tuple"] owns),
  isaCk K owns (.ref (He.ga K "Program")) (isaO "Program" owns),
  gloK K "AHEAD" c_AHEAD,
  gloK K "KEPT" c_KEPT,
  isaCk K owns (.ref (He.ga K "Loader")) (isaO "Loader" owns),
  gloK K "MOST_STATES" c_MOST_STATES,
  gloK K "GONE" c_GONE,
  gloK K "LOADER_WISHES" c_LOADER_WISHES,
  isaCk K owns (.ref (He.ga K "Stale")) (isaO "Stale" owns),
  isaCk2 K owns [.type "list", .type "tuple"] (isaB ["list", "tuple"] owns),
  PySem.W.fnIn K (He.ma K (He.ga K "Program") "__getitem__"),
  dctK K "SORT_OF" kv_SORT_OF,
  gloK K "MOST_USES" c_MOST_USES,
  gloK K "SHOWS" c_SHOWS,
  gloK K "MOST_MODULES" c_MOST_MODULES,
  gloK K "SORTS" c_SORTS,
  gloK K "MOST_NAMES" c_MOST_NAMES,
  dctK K "WORDS" kv_WORDS,
  gloK K "WISHES" c_WISHES,
  isaCk K owns (.ref (He.ga K "Holds")) (isaO "Holds" owns),
  isaCk K owns (.ref (He.ga K "Fails")) (isaO "Fails" owns),
  xfB K (He.ga K "BadProgram"),
  decide (PySem.W.findIn K (.ref (He.ga K "BadProgram")) "part" = some none),
  isxB K isxs,
  supB K P.main.file "BadProgram" "part" x_BadProgram.d.qual,
  supB K P.main.file "BadHistory" "index" x_BadHistory.d.qual]
def tss : List He.Tab := [(fun K => He.ga K "SORT_OF", ["call", "read", "take"]), (fun K => He.ga K "WORDS", ["cell", "address"])]
def tfs : List He.Defn := [("lots_of", none)]
def hk : HkD := ⟨6, fas, fns, tss, tfs, pds, exs, [x_BadProgram, x_BadHistory]⟩
def lamN0 : Nat → Nat → Str := fun _ _ => "lots_of.<locals>.<lambda>"
def G (K : PySem.W.Frag) : Gm := ⟨He.ga K, (· ∈ owns), [((He.cT K ("lots_of", none)).2, lamN0)]⟩
section
variable {w : World} {K : PySem.W.Frag} {mg : Str → Option Value} {base : Heap}
theorem fldOk (F : Fx hk w K mg base) {f : Str} (hf : f ∈ flds) : ∀ c, (G K).ok c → Cls K ((G K) c) ∧ NoAttr K ((G K) c) f := fun c hc => ⟨He.cls_ok (List.all_eq_true.mp (F.ex 0 rfl) c hc), noatB_ok (F.ex 1 rfl) hc hf⟩
theorem U_BadProgram (F : Fx hk w K mg base) : SupK P K (He.ga K "BadProgram") "part" := supK_of (P := P) (x := x_BadProgram) (F.ex 30 rfl) (F.ini 0 rfl) rfl rfl (fun _ _ _ _ _ _ _ _ _ _ => rfl) rfl rfl (.inl rfl) (fun _ _ _ _ => ⟨_, rfl⟩) (beq_self_eq_true _) (by decide +kernel)
theorem U_BadHistory (F : Fx hk w K mg base) : SupK P K (He.ga K "BadHistory") "index" := supK_of (P := P) (x := x_BadHistory) (F.ex 31 rfl) (F.ini 1 rfl) rfl rfl (fun _ _ _ _ _ _ _ _ _ _ => rfl) rfl rfl (.inr (.inl rfl)) (fun _ _ _ _ => ⟨_, rfl⟩) (beq_self_eq_true _) (by decide +kernel)
theorem LN0 : (["lot", "item"] : List Str).Nodup := by decide +kernel
theorem tfm0 : (("lots_of", none) : He.Defn) ∈ hk.tf := by decide
theorem tfi0 : (((He.cT K ("lots_of", none)).2, lamN0) : NdefX.NTab) ∈ (G K).T := List.mem_cons_self
theorem tfu0 : ∀ p ∈ (G K).T, p.1 = (He.cT K ("lots_of", none)).2 → p.2 = lamN0 := fun p hp _ => by
  have z : p = _ := List.mem_singleton.mp hp
  rw [z]
end
end MPK36
set_option Elab.async false
set_option linter.all false
set_option maxRecDepth 100000
set_option maxHeartbeats 1000000
namespace MPK36
open PySem PySem.Spec PyProof.Rows L2 MP
section
variable {w : World} {K : PySem.W.Frag} {mg : Str → Option Value} {base : Heap}
abbrev N__law_first : List Str := ["_law_program", "_law_odd", "_law_rows", "_law_name", "_law_none", "_law_short", "_law_bad"]
theorem S__law_first : FnScope N__law_first ["_law_program"] d__law_first.scope := ⟨rfl, rfl, rfl, by decide +kernel, rfl, by decide +kernel, by decide +kernel⟩
theorem C__law_first (F : Fx hk w K mg base) {fd : FuncData} (D : FunD K d__law_first.name d__law_first.qual d__law_first.params d__law_first.body d__law_first.scope (d__law_first.dvs K) (d__law_first.kws K) (He.ga K "_law_first") fd) : FnOk P w K mg base (L2.CX P w) 1 (He.ga K "_law_first") fd ["_law_program"] (spP w K (G K) 1 phi__law_first) :=
  fn_ok (N := N__law_first) (sv := ev__law_first) D S__law_first (fun _ _ e => e) fun cdv A outer s H E hcd hr tk ps => (dss_cons (by first | exact spar 4 5 S__law_first.nd (acons (de_tup (acons xstr (acons xnon da_nil))) (acons (de_tup (acons xstr (acons xint (acons xint da_nil)))) da_nil)) | exact sparC 4 5 S__law_first.nd (acons (de_tup (acons xstr (acons xnon da_nil))) (acons (de_tup (acons xstr (acons xint (acons xint da_nil)))) da_nil)))
  (dss_cons (sset 1 S__law_first.nd (de_lst (acons xnon (acons (de_lst (acons (xv 5) da_nil)) (acons (de_tup (acons (xv 5) (acons (xv 5) da_nil))) (acons (de_tup (acons (de_tup (acons xstr (acons xint (acons xint da_nil)))) da_nil)) (acons (de_tup (acons (de_tup (acons xstr (acons xint (acons xint da_nil)))) da_nil)) (acons (de_tup (acons (de_tup (acons xstr (acons xint (acons xint da_nil)))) da_nil)) (acons (de_tup (acons xstr da_nil)) da_nil)))))))))
  (dss_cons (sset 2 S__law_first.nd (de_lstM (acons (de_tup (acons xstr (acons xint (acons xint (acons xint (acons xint (acons (xv 4) da_nil))))))) (acons (de_tup (acons xstr (acons xnon (acons xint (acons xint (acons xint (acons (xv 4) da_nil))))))) (acons (de_tup (acons xstr (acons (xv 0) (acons xint (acons xint (acons xint (acons xstr da_nil))))))) da_nil)))))
  (dss_cons (sset 2 S__law_first.nd (xaddM (xv 2) (de_lst (acons (de_tup (acons xstr (acons (xv 0) (acons xtrue (acons xint (acons xint (acons xstr da_nil))))))) (acons (de_tup (acons xstr (acons (xv 0) (acons (de_neg xint) (acons xint (acons xint (acons xstr da_nil))))))) da_nil)))))
  (dss_cons (sset 2 S__law_first.nd (xaddM (xv 2) (de_lst (acons (de_tup (acons xstr (acons (xv 0) (acons xint (acons xint (acons xint (acons xstr da_nil))))))) (acons (de_tup (acons xstr (acons (xv 0) (acons xint (acons xint (acons xint (acons (de_tup (acons xstr (acons xstr da_nil))) da_nil))))))) da_nil)))))
  (dss_cons (sfor ps (di_any (de_tup (acons xstr (acons xstr (acons xstr (acons xstr (acons xstr (acons xstr (acons xstr (acons xstr (acons xstr da_nil))))))))))) (gname 3 S__law_first.nd) (dss_cons (sexpr (xmt pa_list sl_append rfl mt_app (xv 2) (acons (de_tup (acons (xv 3) (acons xint (acons xint (acons xint (acons xint (acons (xv 4) da_nil))))))) da_nil)))
  (dss_cons (sfor ps (di_any (xv 1)) (gname 6 S__law_first.nd) (dss_cons (sexpr (xmt pa_list sl_append rfl mt_app (xv 2) (acons (de_tup (acons (xv 3) (acons (xv 0) (acons (xv 6) (acons xint (acons xint (acons xstr da_nil))))))) da_nil)))
  dss_nil))
  dss_nil)))
  (dss_cons (sfor ps (di_any (de_tup (acons xstr (acons xstr (acons xstr (acons xstr da_nil)))))) (gname 3 S__law_first.nd) (dss_cons (sfor ps (di_any (de_tup (acons xint (acons (de_tup da_nil) (acons (de_tup (acons xint da_nil)) (acons (de_tup (acons xint (acons xint da_nil))) (acons (de_tup (acons xint (acons xtrue da_nil))) (acons (de_lst (acons xint (acons xint da_nil))) da_nil)))))))) (gname 6 S__law_first.nd) (dss_cons (sexpr (xmt pa_list sl_append rfl mt_app (xv 2) (acons (de_tup (acons (xv 3) (acons (xv 0) (acons (de_tup (acons (xv 5) da_nil)) (acons (xv 6) (acons xint (acons xstr da_nil))))))) da_nil)))
  dss_nil))
  dss_nil))
  (dss_cons (sfor ps (di_any (de_tup (acons xstr (acons xstr (acons xstr (acons xstr (acons xstr da_nil))))))) (gname 3 S__law_first.nd) (dss_cons (sexpr (xmt pa_list sl_append rfl mt_app (xv 2) (acons (de_tup (acons (xv 3) (acons (xv 0) (acons (de_tup (acons (xv 5) da_nil)) (acons xstr (acons xint (acons xstr da_nil))))))) da_nil)))
  (dss_cons (sfor ps (di_any (de_tup (acons xnon (acons xstr (acons xstr (acons xint (acons (de_tup (acons xstr da_nil)) da_nil))))))) (gname 6 S__law_first.nd) (dss_cons (sexpr (xmt pa_list sl_append rfl mt_app (xv 2) (acons (de_tup (acons (xv 3) (acons (xv 0) (acons (de_tup (acons (xv 5) da_nil)) (acons (xv 6) (acons xint (acons xstr da_nil))))))) da_nil)))
  dss_nil))
  dss_nil)))
  (dss_cons (ds_ret (xv 2))
  dss_nil)))))))))
theorem R__law_first (F : Fx hk w K mg base) : FnR P w K mg base (G K) (He.ga K "_law_first") ["_law_program"] 1 [] phi__law_first := by
  obtain ⟨fd, D⟩ := F.def_ (d := d__law_first) 0 rfl
  exact ⟨fd, [], D.kp, .nil, (D.bindsN (fun kV doc pm an cdv ct us hl => (by rcases us with _ | ⟨_, _ | ⟨_, us⟩⟩ <;> first | (cases hl; done) | rfl))), C__law_first F D⟩
abbrev N_is_word : List Str := ["thing", "words"]
theorem S_is_word : FnScope N_is_word ["thing", "words"] d_is_word.scope := ⟨rfl, rfl, rfl, by decide +kernel, rfl, by decide +kernel, by decide +kernel⟩
theorem C_is_word (F : Fx hk w K mg base) {fd : FuncData} (D : FunD K d_is_word.name d_is_word.qual d_is_word.params d_is_word.body d_is_word.scope (d_is_word.dvs K) (d_is_word.kws K) (He.ga K "is_word") fd) : FnOk P w K mg base (L2.CX P w) 1 (He.ga K "is_word") fd ["thing", "words"] (spP w K (G K) 2 phi_is_word) :=
  fn_ok (N := N_is_word) (sv := ev_is_word) D S_is_word (fun _ _ e => e) fun cdv A outer s H E hcd hr tk ps => (dss_cons (ds_ret (de_and (xisiT (isaB_ok (T := ["str"]) (own := owns) (fun _ => rfl) (F.ex 2 rfl)) (F.free 1 rfl) (F.free 2 rfl) (xv 0) rfl) (de_one (xin hr (xv 0) (xv 1)))))
  dss_nil)
theorem R_is_word (F : Fx hk w K mg base) : FnR P w K mg base (G K) (He.ga K "is_word") ["thing", "words"] 1 [] phi_is_word := by
  obtain ⟨fd, D⟩ := F.def_ (d := d_is_word) 1 rfl
  exact ⟨fd, [], D.kp, .nil, (D.bindsN (fun kV doc pm an cdv ct us hl => (by rcases us with _ | ⟨_, _ | ⟨_, _ | ⟨_, us⟩⟩⟩ <;> first | (cases hl; done) | rfl))), C_is_word F D⟩
abbrev N_is_number : List Str := ["thing", "low", "high"]
theorem S_is_number : FnScope N_is_number ["thing", "low", "high"] d_is_number.scope := ⟨rfl, rfl, rfl, by decide +kernel, rfl, by decide +kernel, by decide +kernel⟩
theorem C_is_number (F : Fx hk w K mg base) {fd : FuncData} (D : FunD K d_is_number.name d_is_number.qual d_is_number.params d_is_number.body d_is_number.scope (d_is_number.dvs K) (d_is_number.kws K) (He.ga K "is_number") fd) : FnOk P w K mg base (L2.CX P w) 1 (He.ga K "is_number") fd ["thing", "low", "high"] (spP w K (G K) 3 phi_is_number) :=
  fn_ok (N := N_is_number) (sv := ev_is_number) D S_is_number (fun _ _ e => e) fun cdv A outer s H E hcd hr tk ps => (dss_cons (ds_ret (de_and (xisiT (isaB_ok (T := ["int", "bool"]) (own := owns) (fun _ => rfl) (F.ex 5 rfl)) (F.free 1 rfl) (F.free 7 rfl) (xv 0) rfl) (de_and (de_not (xisiT (isaB_ok (T := ["bool"]) (own := owns) (fun _ => rfl) (F.ex 4 rfl)) (F.free 1 rfl) (F.free 6 rfl) (xv 0) rfl)) (de_one (xlele hr (xv 1) (xv 0) (xv 2))))))
  dss_nil)
theorem R_is_number (F : Fx hk w K mg base) : FnR P w K mg base (G K) (He.ga K "is_number") ["thing", "low", "high"] 1 [] phi_is_number := by
  obtain ⟨fd, D⟩ := F.def_ (d := d_is_number) 2 rfl
  exact ⟨fd, [], D.kp, .nil, (D.bindsN (fun kV doc pm an cdv ct us hl => (by rcases us with _ | ⟨_, _ | ⟨_, _ | ⟨_, _ | ⟨_, us⟩⟩⟩⟩ <;> first | (cases hl; done) | rfl))), C_is_number F D⟩
abbrev N_Program_len : List Str := ["self"]
theorem S_Program_len : FnScope N_Program_len ["self"] d_Program_len.scope := ⟨rfl, rfl, rfl, by decide +kernel, rfl, by decide +kernel, by decide +kernel⟩
theorem R_Program_len (F : Fx hk w K mg base) : MtR P w K mg base (G K) "Program" "__len__" ["self"] 1 phi_Program_len := by
  obtain ⟨fd, D⟩ := F.def_ (d := d_Program_len) 3 rfl
  exact ⟨He.cls_ok (F.fact 106 rfl), _, fd, He.meth_ok (F.fact 107 rfl), (D.bindsN (fun kV doc pm an cdv ct us hl => (by rcases us with _ | ⟨_, _ | ⟨_, us⟩⟩ <;> first | (cases hl; done) | rfl))), fn_ok (N := N_Program_len) (sv := ev_Program_len) D S_Program_len (fun _ _ e => e) fun cdv A outer s H E hcd hr tk ps => (dss_cons (ds_ret (xbf bf_len rfl (F.free 10 rfl) (acons (xix hr (xfld (fldOk F (by decide)) (xv 0)) xint) da_nil)))
  dss_nil)⟩
abbrev N_is_lot : List Str := ["program", "thing", "one"]
theorem S_is_lot : FnScope N_is_lot ["program", "thing"] d_is_lot.scope := ⟨rfl, rfl, rfl, by decide +kernel, rfl, by decide +kernel, by decide +kernel⟩
theorem C_is_lot (F : Fx hk w K mg base) {fd : FuncData} (D : FunD K d_is_lot.name d_is_lot.qual d_is_lot.params d_is_lot.body d_is_lot.scope (d_is_lot.dvs K) (d_is_lot.kws K) (He.ga K "is_lot") fd) : FnOk P w K mg base (L2.CX P w) 3 (He.ga K "is_lot") fd ["program", "thing"] (spP w K (G K) 2 phi_is_lot) :=
  fn_ok (N := N_is_lot) (sv := ev_is_lot) D S_is_lot (fun _ _ e => e) fun cdv A outer s H E hcd hr tk ps => (dss_cons (ds_ret (de_and (xisiT (isaB_ok (T := ["tuple"]) (own := owns) (fun _ => rfl) (F.ex 6 rfl)) (F.free 1 rfl) (F.free 11 rfl) (xv 1) rfl) (de_and (xeq hr (xbf (lenT (k := 1) (hr.mono (by decide)) (tabL1 (R_Program_len F))) rfl (F.free 10 rfl) (acons (xv 1) da_nil)) (xbf (lenT (k := 1) (hr.mono (by decide)) (tabL1 (R_Program_len F))) rfl (F.free 10 rfl) (acons (xv 0) da_nil))) (de_one (xbf (bf_all rfl) rfl (F.free 9 rfl) (acons (de_lc kpV_ok rfl S_is_lot.nd (di_any (xv 1)) (blkOk_by (own := [("one", 2)]) (by kernel_rfl)) (by decide) (fun _ _ _ _ _ => (gname 2 S_is_lot.nd)) (fun _ _ _ _ _ => dts_nil) (fun _ _ _ _ _ => (xcall MP.takes0 (R_is_number F) (hr.mono (by decide)) (F.glo 8 rfl) (acons (xv 2) (acons xint (acons xint da_nil))))) (by intro _; rfl)) da_nil))))))
  dss_nil)
theorem R_is_lot (F : Fx hk w K mg base) : FnR P w K mg base (G K) (He.ga K "is_lot") ["program", "thing"] 3 [] phi_is_lot := by
  obtain ⟨fd, D⟩ := F.def_ (d := d_is_lot) 4 rfl
  exact ⟨fd, [], D.kp, .nil, (D.bindsN (fun kV doc pm an cdv ct us hl => (by rcases us with _ | ⟨_, _ | ⟨_, _ | ⟨_, us⟩⟩⟩ <;> first | (cases hl; done) | rfl))), C_is_lot F D⟩
abbrev N_check_lot : List Str := ["program", "lot"]
theorem S_check_lot : FnScope N_check_lot ["program", "lot"] d_check_lot.scope := ⟨rfl, rfl, rfl, by decide +kernel, rfl, by decide +kernel, by decide +kernel⟩
theorem C_check_lot (F : Fx hk w K mg base) {fd : FuncData} (D : FunD K d_check_lot.name d_check_lot.qual d_check_lot.params d_check_lot.body d_check_lot.scope (d_check_lot.dvs K) (d_check_lot.kws K) (He.ga K "check_lot") fd) : FnOk P w K mg base (L2.CX P w) 4 (He.ga K "check_lot") fd ["program", "lot"] (spP w K (G K) 2 phi_check_lot) :=
  fn_ok (N := N_check_lot) (sv := ev_check_lot) D S_check_lot (fun _ _ e => e) fun cdv A outer s H E hcd hr tk ps => (dss_cons (ds_if (dt_not (tval (xcall tk (R_is_lot F) (hr.mono (by decide)) (F.glo 12 rfl) (acons (xv 0) (acons (xv 1) da_nil))))) (dss_cons (sraise tk (F.fact 13 rfl) rfl (F.glo 14 rfl) xstr)
  dss_nil) dss_nil)
  dss_nil)
theorem R_check_lot (F : Fx hk w K mg base) : FnR P w K mg base (G K) (He.ga K "check_lot") ["program", "lot"] 4 [] phi_check_lot := by
  obtain ⟨fd, D⟩ := F.def_ (d := d_check_lot) 5 rfl
  exact ⟨fd, [], D.kp, .nil, (D.bindsN (fun kV doc pm an cdv ct us hl => (by rcases us with _ | ⟨_, _ | ⟨_, _ | ⟨_, us⟩⟩⟩ <;> first | (cases hl; done) | rfl))), C_check_lot F D⟩
abbrev N_Program_sorts : List Str := ["self"]
theorem S_Program_sorts : FnScope N_Program_sorts ["self"] d_Program_sorts.scope := ⟨rfl, rfl, rfl, by decide +kernel, rfl, by decide +kernel, by decide +kernel⟩
theorem R_Program_sorts (F : Fx hk w K mg base) : PrR P w K mg base (G K) "Program" "sorts" 1 phi_Program_sorts := by
  obtain ⟨hp, fd, D⟩ := F.prop (p := ⟨"Program", "sorts", d_Program_sorts⟩) 0 rfl
  exact ⟨He.cls_ok (F.fact 106 rfl), _, _, fd, hp, (D.bindsN (fun kV doc pm an cdv ct us hl => (by rcases us with _ | ⟨_, _ | ⟨_, us⟩⟩ <;> first | (cases hl; done) | rfl))), fn_ok (N := N_Program_sorts) (sv := ev_Program_sorts) D S_Program_sorts (fun _ _ e => e) fun cdv A outer s H E hcd hr tk ps => (dss_cons (ds_ret (xix hr (xfld (fldOk F (by decide)) (xv 0)) xint))
  dss_nil)⟩
abbrev N_Program_found : List Str := ["self", "module", "name", "rows", "row"]
theorem S_Program_found : FnScope N_Program_found ["self", "module", "name"] d_Program_found.scope := ⟨rfl, rfl, rfl, by decide +kernel, rfl, by decide +kernel, by decide +kernel⟩
theorem R_Program_found (F : Fx hk w K mg base) : MtR P w K mg base (G K) "Program" "found" ["self", "module", "name"] 1 phi_Program_found := by
  obtain ⟨fd, D⟩ := F.def_ (d := d_Program_found) 6 rfl
  exact ⟨He.cls_ok (F.fact 106 rfl), _, fd, He.meth_ok (F.fact 108 rfl), (D.bindsN (fun kV doc pm an cdv ct us hl => (by rcases us with _ | ⟨_, _ | ⟨_, _ | ⟨_, _ | ⟨_, us⟩⟩⟩⟩ <;> first | (cases hl; done) | rfl))), fn_ok (N := N_Program_found) (sv := ev_Program_found) D S_Program_found (fun _ _ e => e) fun cdv A outer s H E hcd hr tk ps => (dss_cons (by first | exact sset 3 S_Program_found.nd (de_lc kpV_ok rfl S_Program_found.nd (di_any (xix hr (xix hr (xfld (fldOk F (by decide)) (xv 0)) xint) (xv 1))) (blkOk_by (own := [("row", 4)]) (by kernel_rfl)) (by decide) (fun _ _ _ _ _ => (gname 4 S_Program_found.nd)) (fun _ _ _ _ _ => (dts_one (teq hr (xix hr (xv 4) xint) (xv 2)))) (fun _ _ _ _ _ => (xv 4)) (by intro _; rfl)) | exact ds_setLc kpV_ok rfl S_Program_found.nd rfl rfl rfl (di_any (xix hr (xix hr (xfld (fldOk F (by decide)) (xv 0)) xint) (xv 1))) (blkOk_by (own := [("row", 4)]) (by kernel_rfl)) (by decide) (fun _ _ _ _ _ => (gname 4 S_Program_found.nd)) (fun _ _ _ _ _ => (dts_one (teq hr (xix hr (xv 4) xint) (xv 2)))) (fun _ _ _ _ _ => (xv 4)) (by intro _; rfl))
  (dss_cons (ds_ret (de_ite (tne hr (xv 3) (de_lst da_nil)) (xix hr (xv 3) xint) xnon))
  dss_nil))⟩
abbrev N_Program_show_of : List Str := ["self", "module", "name", "row"]
theorem S_Program_show_of : FnScope N_Program_show_of ["self", "module", "name"] d_Program_show_of.scope := ⟨rfl, rfl, rfl, by decide +kernel, rfl, by decide +kernel, by decide +kernel⟩
theorem R_Program_show_of (F : Fx hk w K mg base) : MtR P w K mg base (G K) "Program" "show_of" ["self", "module", "name"] 2 phi_Program_show_of := by
  obtain ⟨fd, D⟩ := F.def_ (d := d_Program_show_of) 7 rfl
  exact ⟨He.cls_ok (F.fact 106 rfl), _, fd, He.meth_ok (F.fact 109 rfl), (D.bindsN (fun kV doc pm an cdv ct us hl => (by rcases us with _ | ⟨_, _ | ⟨_, _ | ⟨_, _ | ⟨_, us⟩⟩⟩⟩ <;> first | (cases hl; done) | rfl))), fn_ok (N := N_Program_show_of) (sv := ev_Program_show_of) D S_Program_show_of (fun _ _ e => e) fun cdv A outer s H E hcd hr tk ps => (dss_cons (ds_if (twh (dw_or (dt_not (tval (xcall tk (R_is_number F) (hr.mono (by decide)) (F.glo 8 rfl) (acons (xv 1) (acons xint (acons (xsub (xbf bf_len rfl (F.free 10 rfl) (acons (xix hr (xfld (fldOk F (by decide)) (xv 0)) xint) da_nil)) xint) da_nil)))))) (dw_or1 (dt_not (tval (xcall tk (R_is_number F) (hr.mono (by decide)) (F.glo 8 rfl) (acons (xv 2) (acons xint (acons (xsub (xbf bf_len rfl (F.free 10 rfl) (acons (xix hr (xfld (fldOk F (by decide)) (xv 0)) xint) da_nil)) xint) da_nil))))))))) (dss_cons (sraise tk (F.fact 17 rfl) rfl (F.glo 18 rfl) xstr)
  dss_nil) dss_nil)
  (dss_cons (sset 3 S_Program_show_of.nd (xmeth (k := 1) tk (hr.mono (by decide)) (tab1 (MtR.mok (R_Program_found F) (by decide))) (xv 0) (acons (xv 1) (acons (xv 2) da_nil))))
  (dss_cons (ds_ret (de_ite (tis (xv 3) xnon) xnon (xix hr (xv 3) xint)))
  dss_nil)))⟩
abbrev N_Program_modules : List Str := ["self"]
theorem S_Program_modules : FnScope N_Program_modules ["self"] d_Program_modules.scope := ⟨rfl, rfl, rfl, by decide +kernel, rfl, by decide +kernel, by decide +kernel⟩
theorem R_Program_modules (F : Fx hk w K mg base) : PrR P w K mg base (G K) "Program" "modules" 1 phi_Program_modules := by
  obtain ⟨hp, fd, D⟩ := F.prop (p := ⟨"Program", "modules", d_Program_modules⟩) 1 rfl
  exact ⟨He.cls_ok (F.fact 106 rfl), _, _, fd, hp, (D.bindsN (fun kV doc pm an cdv ct us hl => (by rcases us with _ | ⟨_, _ | ⟨_, us⟩⟩ <;> first | (cases hl; done) | rfl))), fn_ok (N := N_Program_modules) (sv := ev_Program_modules) D S_Program_modules (fun _ _ e => e) fun cdv A outer s H E hcd hr tk ps => (dss_cons (ds_ret (xix hr (xfld (fldOk F (by decide)) (xv 0)) xint))
  dss_nil)⟩
abbrev N_can_shorten : List Str := ["program", "thing", "word", "module", "name", "shows", "is_there", "at", "show"]
theorem S_can_shorten : FnScope N_can_shorten ["program", "thing"] d_can_shorten.scope := ⟨rfl, rfl, rfl, by decide +kernel, rfl, by decide +kernel, by decide +kernel⟩
theorem C_can_shorten (F : Fx hk w K mg base) {fd : FuncData} (D : FunD K d_can_shorten.name d_can_shorten.qual d_can_shorten.params d_can_shorten.body d_can_shorten.scope (d_can_shorten.dvs K) (d_can_shorten.kws K) (He.ga K "can_shorten") fd) : FnOk P w K mg base (L2.CX P w) 3 (He.ga K "can_shorten") fd ["program", "thing"] (spP w K (G K) 2 phi_can_shorten) :=
  fn_ok (N := N_can_shorten) (sv := ev_can_shorten) D S_can_shorten (fun _ _ e => e) fun cdv A outer s H E hcd hr tk ps => (dss_cons (ds_if (twh (dw_or (dt_not (tval (xisiT (isaB_ok (T := ["tuple"]) (own := owns) (fun _ => rfl) (F.ex 6 rfl)) (F.free 1 rfl) (F.free 11 rfl) (xv 1) rfl))) (dw_or (tne hr (xbf (lenT (k := 1) (hr.mono (by decide)) (tabL1 (R_Program_len F))) rfl (F.free 10 rfl) (acons (xv 1) da_nil)) xint) (dw_or1 (tnotin hr (xix hr (xv 1) xint) (de_tup (acons xstr (acons xstr (acons xstr da_nil))))))))) (dss_cons (ds_ret xfalse)
  dss_nil) dss_nil)
  (dss_cons (ds_if (twh (dw_or (dt_not (tval (xcall tk (R_is_number F) (hr.mono (by decide)) (F.glo 8 rfl) (acons (xix hr (xv 1) xint) (acons xint (acons (xsub (xbf (lenT (k := 1) (hr.mono (by decide)) (tabL1 (R_Program_len F))) rfl (F.free 10 rfl) (acons (xprop (R_Program_modules F) (hr.mono (by decide)) (xv 0)) da_nil)) xint) da_nil)))))) (dw_or1 (dt_not (tval (xcall tk (R_is_number F) (hr.mono (by decide)) (F.glo 8 rfl) (acons (xix hr (xv 1) xint) (acons xint (acons (xsub (xbf (lenT (k := 1) (hr.mono (by decide)) (tabL1 (R_Program_len F))) rfl (F.free 10 rfl) (acons (xv 0) da_nil)) xint) da_nil))))))))) (dss_cons (ds_ret xfalse)
  dss_nil) dss_nil)
  (dss_cons (sasg (xv 1) (gtup (gcons (gname 2 S_can_shorten.nd) (gcons (gname 3 S_can_shorten.nd) (gcons (gname 4 S_can_shorten.nd) dgs_nil)))))
  (dss_cons (ds_if (teq hr (xv 2) xstr) (dss_cons (by first | exact sset 5 S_can_shorten.nd (de_lc kpV_ok rfl S_can_shorten.nd (irange2 (F.free 20 rfl) (acons xint (acons (xbf (lenT (k := 1) (hr.mono (by decide)) (tabL1 (R_Program_len F))) rfl (F.free 10 rfl) (acons (xprop (R_Program_modules F) (hr.mono (by decide)) (xv 0)) da_nil)) da_nil))) (blkOk_by (own := [("at", 7)]) (by kernel_rfl)) (by decide) (fun _ _ _ _ _ => (gname 7 S_can_shorten.nd)) (fun _ _ _ _ _ => dts_nil) (fun _ _ _ _ _ => (xmeth (k := 2) MP.takes0 (hr.mono (by decide)) (tab1 (MtR.mok (R_Program_show_of F) (by decide))) (xv 0) (acons (xv 7) (acons (xv 4) da_nil)))) (by intro _; rfl)) | exact ds_setLc kpV_ok rfl S_can_shorten.nd rfl rfl rfl (irange2 (F.free 20 rfl) (acons xint (acons (xbf (lenT (k := 1) (hr.mono (by decide)) (tabL1 (R_Program_len F))) rfl (F.free 10 rfl) (acons (xprop (R_Program_modules F) (hr.mono (by decide)) (xv 0)) da_nil)) da_nil))) (blkOk_by (own := [("at", 7)]) (by kernel_rfl)) (by decide) (fun _ _ _ _ _ => (gname 7 S_can_shorten.nd)) (fun _ _ _ _ _ => dts_nil) (fun _ _ _ _ _ => (xmeth (k := 2) MP.takes0 (hr.mono (by decide)) (tab1 (MtR.mok (R_Program_show_of F) (by decide))) (xv 0) (acons (xv 7) (acons (xv 4) da_nil)))) (by intro _; rfl))
  (dss_cons (sset 6 S_can_shorten.nd (xbf (bf_any rfl) rfl (F.free 19 rfl) (acons (de_lc kpV_ok rfl S_can_shorten.nd (di_any (xv 5)) (blkOk_by (own := [("show", 8)]) (by kernel_rfl)) (by decide) (fun _ _ _ _ _ => (gname 8 S_can_shorten.nd)) (fun _ _ _ _ _ => dts_nil) (fun _ _ _ _ _ => (de_and (xisnot (xv 8) xnon) (de_one (xne hr (xv 8) xstr)))) (by intro _; rfl)) da_nil)))
  (dss_cons (ds_ret (de_and (xeq hr (xv 3) xint) (de_and (xeq hr (xix hr (xprop (R_Program_sorts F) (hr.mono (by decide)) (xv 0)) (xv 4)) xstr) (de_and (xis (xmeth (k := 2) tk (hr.mono (by decide)) (tab1 (MtR.mok (R_Program_show_of F) (by decide))) (xv 0) (acons xint (acons (xv 4) da_nil))) xnon) (de_one (xv 6))))))
  dss_nil))) dss_nil)
  (dss_cons (ds_ret (de_and (xisnot (xmeth (k := 2) tk (hr.mono (by decide)) (tab1 (MtR.mok (R_Program_show_of F) (by decide))) (xv 0) (acons (xv 3) (acons (xv 4) da_nil))) xnon) (de_one (de_or (xeq hr (xv 2) xstr) (de_one (xeq hr (xix hr (xprop (R_Program_sorts F) (hr.mono (by decide)) (xv 0)) (xv 4)) xstr))))))
  dss_nil)))))
theorem R_can_shorten (F : Fx hk w K mg base) : FnR P w K mg base (G K) (He.ga K "can_shorten") ["program", "thing"] 3 [] phi_can_shorten := by
  obtain ⟨fd, D⟩ := F.def_ (d := d_can_shorten) 8 rfl
  exact ⟨fd, [], D.kp, .nil, (D.bindsN (fun kV doc pm an cdv ct us hl => (by rcases us with _ | ⟨_, _ | ⟨_, _ | ⟨_, us⟩⟩⟩ <;> first | (cases hl; done) | rfl))), C_can_shorten F D⟩
abbrev N_is_choice : List Str := ["program", "thing", "one", "other"]
theorem S_is_choice : FnScope N_is_choice ["program", "thing"] d_is_choice.scope := ⟨rfl, rfl, rfl, by decide +kernel, rfl, by decide +kernel, by decide +kernel⟩
theorem C_is_choice (F : Fx hk w K mg base) {fd : FuncData} (D : FunD K d_is_choice.name d_is_choice.qual d_is_choice.params d_is_choice.body d_is_choice.scope (d_is_choice.dvs K) (d_is_choice.kws K) (He.ga K "is_choice") fd) : FnOk P w K mg base (L2.CX P w) 4 (He.ga K "is_choice") fd ["program", "thing"] (spP w K (G K) 2 phi_is_choice) :=
  fn_ok (N := N_is_choice) (sv := ev_is_choice) D S_is_choice (fun _ _ e => e) fun cdv A outer s H E hcd hr tk ps => (dss_cons (ds_if (twh (dw_or (dt_not (tval (xisiT (isaB_ok (T := ["tuple"]) (own := owns) (fun _ => rfl) (F.ex 6 rfl)) (F.free 1 rfl) (F.free 11 rfl) (xv 1) rfl))) (dw_or1 (dt_not (tval (xbf (bf_all rfl) rfl (F.free 9 rfl) (acons (de_lc kpV_ok rfl S_is_choice.nd (di_any (xv 1)) (blkOk_by (own := [("one", 2)]) (by kernel_rfl)) (by decide) (fun _ _ _ _ _ => (gname 2 S_is_choice.nd)) (fun _ _ _ _ _ => dts_nil) (fun _ _ _ _ _ => (xcall MP.takes0 (R_can_shorten F) (hr.mono (by decide)) (F.glo 21 rfl) (acons (xv 0) (acons (xv 2) da_nil)))) (by intro _; rfl)) da_nil))))))) (dss_cons (ds_ret xfalse)
  dss_nil) dss_nil)
  (dss_cons (ds_ret (xbf (bf_all rfl) rfl (F.free 9 rfl) (acons (de_lc kpV_ok rfl S_is_choice.nd (izip (F.free 16 rfl) (acons (xv 1) (acons (de_slice (xv 1) (do_some xint) do_none) da_nil))) (blkOk_by (own := [("one", 2), ("other", 3)]) (by kernel_rfl)) (by decide) (fun _ _ _ _ _ => (gtup (gcons (gname 2 S_is_choice.nd) (gcons (gname 3 S_is_choice.nd) dgs_nil)))) (fun _ _ _ _ _ => dts_nil) (fun _ _ _ _ _ => (xlt hr (xv 2) (xv 3))) (by intro _; rfl)) da_nil)))
  dss_nil))
theorem R_is_choice (F : Fx hk w K mg base) : FnR P w K mg base (G K) (He.ga K "is_choice") ["program", "thing"] 4 [] phi_is_choice := by
  obtain ⟨fd, D⟩ := F.def_ (d := d_is_choice) 9 rfl
  exact ⟨fd, [], D.kp, .nil, (D.bindsN (fun kV doc pm an cdv ct us hl => (by rcases us with _ | ⟨_, _ | ⟨_, _ | ⟨_, us⟩⟩⟩ <;> first | (cases hl; done) | rfl))), C_is_choice F D⟩
end
end MPK36
set_option Elab.async false
set_option linter.all false
set_option maxRecDepth 100000
set_option maxHeartbeats 1000000
namespace MPK36
open PySem PySem.Spec PyProof.Rows L2 MP
section
variable {w : World} {K : PySem.W.Frag} {mg : Str → Option Value} {base : Heap}
abbrev N_check_program : List Str := ["program"]
theorem S_check_program : FnScope N_check_program ["program"] d_check_program.scope := ⟨rfl, rfl, rfl, by decide +kernel, rfl, by decide +kernel, by decide +kernel⟩
theorem C_check_program (F : Fx hk w K mg base) {fd : FuncData} (D : FunD K d_check_program.name d_check_program.qual d_check_program.params d_check_program.body d_check_program.scope (d_check_program.dvs K) (d_check_program.kws K) (He.ga K "check_program") fd) : FnOk P w K mg base (L2.CX P w) 3 (He.ga K "check_program") fd ["program"] (spP w K (G K) 1 phi_check_program) :=
  fn_ok (N := N_check_program) (sv := ev_check_program) D S_check_program (fun _ _ e => e) fun cdv A outer s H E hcd hr tk ps => (dss_cons (ds_if (dt_not (tval (xisiO (isaO_ok (C := "Program") (own := owns) (fun _ => rfl) (F.ex 7 rfl)) (F.free 1 rfl) (F.glo 25 rfl) (xv 0)))) (dss_cons (sraiseI tk (U_BadProgram F) (hr.mono (by decide)) rfl (F.glo 26 rfl) xnon)
  dss_nil) dss_nil)
  dss_nil)
theorem R_check_program (F : Fx hk w K mg base) : FnR P w K mg base (G K) (He.ga K "check_program") ["program"] 3 [] phi_check_program := by
  obtain ⟨fd, D⟩ := F.def_ (d := d_check_program) 10 rfl
  exact ⟨fd, [], D.kp, .nil, (D.bindsN (fun kV doc pm an cdv ct us hl => (by rcases us with _ | ⟨_, _ | ⟨_, us⟩⟩ <;> first | (cases hl; done) | rfl))), C_check_program F D⟩
abbrev N_check_choice : List Str := ["program", "choice"]
theorem S_check_choice : FnScope N_check_choice ["program", "choice"] d_check_choice.scope := ⟨rfl, rfl, rfl, by decide +kernel, rfl, by decide +kernel, by decide +kernel⟩
theorem C_check_choice (F : Fx hk w K mg base) {fd : FuncData} (D : FunD K d_check_choice.name d_check_choice.qual d_check_choice.params d_check_choice.body d_check_choice.scope (d_check_choice.dvs K) (d_check_choice.kws K) (He.ga K "check_choice") fd) : FnOk P w K mg base (L2.CX P w) 5 (He.ga K "check_choice") fd ["program", "choice"] (spP w K (G K) 2 phi_check_choice) :=
  fn_ok (N := N_check_choice) (sv := ev_check_choice) D S_check_choice (fun _ _ e => e) fun cdv A outer s H E hcd hr tk ps => (dss_cons (sexpr (xcall tk (R_check_program F) (hr.mono (by decide)) (F.glo 27 rfl) (acons (xv 0) da_nil)))
  (dss_cons (ds_if (dt_not (tval (xcall tk (R_is_choice F) (hr.mono (by decide)) (F.glo 22 rfl) (acons (xv 0) (acons (xv 1) da_nil))))) (dss_cons (sraise tk (F.fact 23 rfl) rfl (F.glo 24 rfl) xstr)
  dss_nil) dss_nil)
  dss_nil))
theorem R_check_choice (F : Fx hk w K mg base) : FnR P w K mg base (G K) (He.ga K "check_choice") ["program", "choice"] 5 [] phi_check_choice := by
  obtain ⟨fd, D⟩ := F.def_ (d := d_check_choice) 11 rfl
  exact ⟨fd, [], D.kp, .nil, (D.bindsN (fun kV doc pm an cdv ct us hl => (by rcases us with _ | ⟨_, _ | ⟨_, _ | ⟨_, us⟩⟩⟩ <;> first | (cases hl; done) | rfl))), C_check_choice F D⟩
abbrev N_Loader_init : List Str := ["self", "program", "choice", "lot", "mode"]
theorem S_Loader_init : FnScope N_Loader_init ["self", "program", "choice", "lot", "mode"] d_Loader_init.scope := ⟨rfl, rfl, rfl, by decide +kernel, rfl, by decide +kernel, by decide +kernel⟩
theorem R_Loader_init (F : Fx hk w K mg base) : MkR P w K mg base (G K) "Loader" ["self", "program", "choice", "lot", "mode"] 6 phi_Loader_init := by
  obtain ⟨fd, D⟩ := F.def_ (d := d_Loader_init) 12 rfl
  exact ⟨(by decide : ("Loader" : Str) ∈ owns), _, fd, He.mkr_ok (F.fact 110 rfl), (D.bindsN (fun kV doc pm an cdv ct us hl => (by rcases us with _ | ⟨_, _ | ⟨_, _ | ⟨_, _ | ⟨_, _ | ⟨_, _ | ⟨_, us⟩⟩⟩⟩⟩⟩ <;> first | (cases hl; done) | rfl))), fnI_ok (N := N_Loader_init) (sv := ev_Loader_init) D S_Loader_init (fun _ _ e => e) fun cdv A outer s H E hr tk ps => (dss_cons (sexpr (xcall tk (R_check_choice F) (hr.mono (by decide)) (F.glo 28 rfl) (acons (xv 1) (acons (xv 2) da_nil))))
  (dss_cons (sexpr (xcall tk (R_check_lot F) (hr.mono (by decide)) (F.glo 15 rfl) (acons (xv 1) (acons (xv 3) da_nil))))
  (dss_cons (ds_if (dt_not (tval (xcall tk (R_is_word F) (hr.mono (by decide)) (F.glo 3 rfl) (acons (xv 4) (acons (xg (gloK_ok (x := "MODES") (d := c_MODES) F.kin F.ns (F.ex 3 rfl))) da_nil))))) (dss_cons (sraise tk (F.fact 4 rfl) rfl (F.glo 5 rfl) xstr)
  dss_nil) dss_nil)
  (dss_cons (sfld (fldOk F (by decide)) (xv 1) (xv 0))
  (dss_cons (sfld (fldOk F (by decide)) (xv 2) (xv 0))
  (dss_cons (sfld (fldOk F (by decide)) (xv 3) (xv 0))
  (dss_cons (sfld (fldOk F (by decide)) (xv 4) (xv 0))
  dss_nil)))))))⟩
abbrev N__law_second : List Str := ["_law_program", "_law_loader", "_law_rows", "_law_bad", "_law_name"]
theorem S__law_second : FnScope N__law_second ["_law_program"] d__law_second.scope := ⟨rfl, rfl, rfl, by decide +kernel, rfl, by decide +kernel, by decide +kernel⟩
theorem C__law_second (F : Fx hk w K mg base) {fd : FuncData} (D : FunD K d__law_second.name d__law_second.qual d__law_second.params d__law_second.body d__law_second.scope (d__law_second.dvs K) (d__law_second.kws K) (He.ga K "_law_second") fd) : FnOk P w K mg base (L2.CX P w) 8 (He.ga K "_law_second") fd ["_law_program"] (spP w K (G K) 1 phi__law_second) :=
  fn_ok (N := N__law_second) (sv := ev__law_second) D S__law_second (fun _ _ e => e) fun cdv A outer s H E hcd hr tk ps => (dss_cons (sset 1 S__law_second.nd (xmake tk (R_Loader_init F) (hr.mono (by decide)) (F.glo 29 rfl) (acons (xv 0) (acons (de_tup da_nil) (acons (de_tup (acons xint (acons xint da_nil))) (acons xstr da_nil))))))
  (dss_cons (sset 2 S__law_second.nd (de_lstM (acons (de_tup (acons xstr (acons (xv 0) (acons (de_tup da_nil) (acons xnon (acons xint (acons xstr da_nil))))))) (acons (de_tup (acons xstr (acons (xv 0) (acons (de_tup da_nil) (acons (de_tup (acons xint (acons xint da_nil))) (acons (de_tup (acons xnon (acons xstr (acons xint da_nil)))) (acons xstr da_nil))))))) da_nil))))
  (dss_cons (sfor ps (di_any (de_tup (acons xnon (acons xstr (acons xint (acons (de_tup (acons xstr da_nil)) da_nil)))))) (gname 3 S__law_second.nd) (dss_cons (sexpr (xmt pa_list sl_append rfl mt_app (xv 2) (acons (de_tup (acons xstr (acons (xv 0) (acons (de_tup da_nil) (acons (de_tup (acons xint (acons xint da_nil))) (acons (xv 3) (acons xstr da_nil))))))) da_nil)))
  dss_nil))
  (dss_cons (sfor ps (di_any (de_tup (acons xnon (acons (de_tup (acons xint (acons xstr (acons xint da_nil)))) (acons (de_tup (acons xint (acons xstr (acons xint da_nil)))) (acons (de_tup (acons xnon (acons xstr (acons xint da_nil)))) (acons (de_tup (acons xint (acons xstr da_nil))) (acons (de_tup (acons xint (acons xstr (acons xint da_nil)))) da_nil)))))))) (gname 3 S__law_second.nd) (dss_cons (sexpr (xmt pa_list sl_append rfl mt_app (xv 2) (acons (de_tup (acons xstr (acons (xv 0) (acons (de_tup da_nil) (acons (de_tup (acons xint (acons xint da_nil))) (acons (xv 3) (acons xstr da_nil))))))) da_nil)))
  dss_nil))
  (dss_cons (sfor ps (di_any (de_tup (acons xstr (acons xstr (acons xstr (acons xstr (acons xstr (acons xstr (acons xstr (acons xstr (acons xstr da_nil))))))))))) (gname 4 S__law_second.nd) (dss_cons (sset 2 S__law_second.nd (xaddM (xv 2) (de_lst (acons (de_tup (acons (xv 4) (acons (xv 0) (acons xint (acons xint (acons xint (acons xstr da_nil))))))) (acons (de_tup (acons (xv 4) (acons xnon (acons xint (acons xint (acons xint (acons xstr da_nil))))))) da_nil)))))
  dss_nil))
  (dss_cons (sfor ps (di_any (de_tup (acons xstr (acons xstr (acons xstr (acons xstr da_nil)))))) (gname 4 S__law_second.nd) (dss_cons (sexpr (xmt pa_list sl_append rfl mt_app (xv 2) (acons (de_tup (acons (xv 4) (acons (xv 1) (acons xstr (acons xint (acons xint (acons xstr da_nil))))))) da_nil)))
  (dss_cons (sfor ps (di_any (de_tup (acons xnon (acons xstr (acons xstr (acons (de_tup (acons xstr da_nil)) da_nil)))))) (gname 3 S__law_second.nd) (dss_cons (sexpr (xmt pa_list sl_append rfl mt_app (xv 2) (acons (de_tup (acons (xv 4) (acons (xv 1) (acons (xv 3) (acons xint (acons xint (acons xstr da_nil))))))) da_nil)))
  dss_nil))
  dss_nil)))
  (dss_cons (ds_ret (xv 2))
  dss_nil)))))))
theorem R__law_second (F : Fx hk w K mg base) : FnR P w K mg base (G K) (He.ga K "_law_second") ["_law_program"] 8 [] phi__law_second := by
  obtain ⟨fd, D⟩ := F.def_ (d := d__law_second) 13 rfl
  exact ⟨fd, [], D.kp, .nil, (D.bindsN (fun kV doc pm an cdv ct us hl => (by rcases us with _ | ⟨_, _ | ⟨_, us⟩⟩ <;> first | (cases hl; done) | rfl))), C__law_second F D⟩
abbrev N_met : List Str := ["program", "choice", "lot", "use", "there", "modules", "at", "weak", "module", "word", "name"]
theorem S_met : FnScope N_met ["program", "choice", "lot", "use", "there"] d_met.scope := ⟨rfl, rfl, rfl, by decide +kernel, rfl, by decide +kernel, by decide +kernel⟩
theorem C_met (F : Fx hk w K mg base) {fd : FuncData} (D : FunD K d_met.name d_met.qual d_met.params d_met.body d_met.scope (d_met.dvs K) (d_met.kws K) (He.ga K "met") fd) : FnOk P w K mg base (L2.CX P w) 3 (He.ga K "met") fd ["program", "choice", "lot", "use", "there"] (spP w K (G K) 5 phi_met) :=
  fn_ok (N := N_met) (sv := ev_met) D S_met (fun _ _ e => e) fun cdv A outer s H E hcd hr tk ps => (dss_cons (sasg (xv 3) (gtup (gcons (gname 8 S_met.nd) (gcons (gname 9 S_met.nd) (gcons (gname 10 S_met.nd) dgs_nil)))))
  (dss_cons (ds_if (tisnot (xv 8) xnon) (dss_cons (ds_if (twh (dw_or (tin hr (de_tup (acons xstr (acons (xv 8) (acons (xv 10) da_nil)))) (xv 1)) (dw_or1 (twh (dw_and (teq hr (xv 9) xstr) (dw_and1 (tin hr (de_tup (acons xstr (acons (xv 8) (acons (xv 10) da_nil)))) (xv 1)))))))) (dss_cons (ds_ret (xv 8))
  dss_nil) dss_nil)
  (dss_cons (ds_if (tin hr (xmeth (k := 2) tk (hr.mono (by decide)) (tab1 (MtR.mok (R_Program_show_of F) (by decide))) (xv 0) (acons (xv 8) (acons (xv 10) da_nil))) (xg (gloK_ok (x := "KEPT") (d := c_KEPT) F.kin F.ns (F.ex 9 rfl)))) (dss_cons (ds_ret (xv 8))
  dss_nil) dss_nil)
  dss_nil)) dss_nil)
  (dss_cons (ds_if (teq hr (xix hr (xv 2) (xv 10)) xint) (dss_cons (ds_ret (xg (gloK_ok (x := "AHEAD") (d := c_AHEAD) F.kin F.ns (F.ex 8 rfl))))
  dss_nil) dss_nil)
  (dss_cons (sset 5 S_met.nd (de_ite (tis (xv 4) xnon) (xlrg1 (F.free 32 rfl) (F.free 20 rfl) (xbf (lenT (k := 1) (hr.mono (by decide)) (tabL1 (R_Program_len F))) rfl (F.free 10 rfl) (acons (xprop (R_Program_modules F) (hr.mono (by decide)) (xv 0)) da_nil))) (xty (bf_lstA rfl) rfl (F.free 32 rfl) (acons (xv 4) da_nil))))
  (dss_cons (sfor ps (di_any (xv 5)) (gname 6 S_met.nd) (dss_cons (ds_if (twh (dw_or (tin hr (xmeth (k := 2) tk (hr.mono (by decide)) (tab1 (MtR.mok (R_Program_show_of F) (by decide))) (xv 0) (acons (xv 6) (acons (xv 10) da_nil))) (de_tup (acons xstr (acons xstr da_nil)))) (dw_or1 (tin hr (de_tup (acons xstr (acons (xv 6) (acons (xv 10) da_nil)))) (xv 1))))) (dss_cons (ds_ret (xv 6))
  dss_nil) dss_nil)
  dss_nil))
  (dss_cons (ds_if (teq hr (xix hr (xv 2) (xv 10)) xint) (dss_cons (ds_ret (xg (gloK_ok (x := "AHEAD") (d := c_AHEAD) F.kin F.ns (F.ex 8 rfl))))
  dss_nil) dss_nil)
  (dss_cons (by first | exact sset 7 S_met.nd (de_lc kpV_ok rfl S_met.nd (di_any (xv 5)) (blkOk_by (own := [("at", 6)]) (by kernel_rfl)) (by decide) (fun _ _ _ _ _ => (gname 6 S_met.nd)) (fun _ _ _ _ _ => (dts_one (teq hr (xmeth (k := 2) MP.takes0 (hr.mono (by decide)) (tab1 (MtR.mok (R_Program_show_of F) (by decide))) (xv 0) (acons (xv 6) (acons (xv 10) da_nil))) xstr))) (fun _ _ _ _ _ => (xv 6)) (by intro _; rfl)) | exact ds_setLc kpV_ok rfl S_met.nd rfl rfl rfl (di_any (xv 5)) (blkOk_by (own := [("at", 6)]) (by kernel_rfl)) (by decide) (fun _ _ _ _ _ => (gname 6 S_met.nd)) (fun _ _ _ _ _ => (dts_one (teq hr (xmeth (k := 2) MP.takes0 (hr.mono (by decide)) (tab1 (MtR.mok (R_Program_show_of F) (by decide))) (xv 0) (acons (xv 6) (acons (xv 10) da_nil))) xstr))) (fun _ _ _ _ _ => (xv 6)) (by intro _; rfl))
  (dss_cons (ds_ret (de_ite (tne hr (xv 7) (de_lst da_nil)) (xix hr (xv 7) xint) xnon))
  dss_nil))))))))
theorem R_met (F : Fx hk w K mg base) : FnR P w K mg base (G K) (He.ga K "met") ["program", "choice", "lot", "use", "there"] 3 [] phi_met := by
  obtain ⟨fd, D⟩ := F.def_ (d := d_met) 14 rfl
  obtain ⟨ds, hv, hb⟩ := D.binds1 (ps := ["program", "choice", "lot", "use", "there"]) 5 1 (by exact fun z => nomatch z) rfl (fun T kV doc pm an cdv ct us its hl h2 => (by rcases us with _ | ⟨_, _ | ⟨_, _ | ⟨_, _ | ⟨_, _ | ⟨_, _ | ⟨_, us⟩⟩⟩⟩⟩⟩ <;> first | (cases hl; done) | (rcases its with _ | ⟨_, _ | ⟨_, its⟩⟩ <;> first | (cases h2; done) | exact ⟨_, rfl, rfl⟩)))
  cases hv
  exact ⟨fd, [], D.kp, .nil, hb, C_met F D⟩
theorem RN_met (F : Fx hk w K mg base) : FnR P w K mg base (G K) (He.ga K "met") ["program", "choice", "lot", "use", "there"] 3 [.non] phi_met := by
  obtain ⟨fd, D⟩ := F.def_ (d := d_met) 14 rfl
  obtain ⟨ds, hv, hb⟩ := D.binds1 (ps := ["program", "choice", "lot", "use", "there"]) 4 0 (by exact fun z => nomatch z) rfl (fun T kV doc pm an cdv ct us its hl h2 => (by rcases us with _ | ⟨_, _ | ⟨_, _ | ⟨_, _ | ⟨_, _ | ⟨_, us⟩⟩⟩⟩⟩ <;> first | (cases hl; done) | (rcases its with _ | ⟨_, _ | ⟨_, its⟩⟩ <;> first | (cases h2; done) | exact ⟨_, rfl, rfl⟩)))
  exact ⟨fd, ds, D.kp, hv, hb, C_met F D⟩
abbrev N_Loader_meets : List Str := ["self", "there", "use"]
theorem S_Loader_meets : FnScope N_Loader_meets ["self", "there", "use"] d_Loader_meets.scope := ⟨rfl, rfl, rfl, by decide +kernel, rfl, by decide +kernel, by decide +kernel⟩
theorem R_Loader_meets (F : Fx hk w K mg base) : MtR P w K mg base (G K) "Loader" "meets" ["self", "there", "use"] 4 phi_Loader_meets := by
  obtain ⟨fd, D⟩ := F.def_ (d := d_Loader_meets) 15 rfl
  exact ⟨He.cls_ok (F.fact 111 rfl), _, fd, He.meth_ok (F.fact 112 rfl), (D.bindsN (fun kV doc pm an cdv ct us hl => (by rcases us with _ | ⟨_, _ | ⟨_, _ | ⟨_, _ | ⟨_, us⟩⟩⟩⟩ <;> first | (cases hl; done) | rfl))), fn_ok (N := N_Loader_meets) (sv := ev_Loader_meets) D S_Loader_meets (fun _ _ e => e) fun cdv A outer s H E hcd hr tk ps => (dss_cons (ds_ret (xcall tk (R_met F) (hr.mono (by decide)) (F.glo 33 rfl) (acons (xfld (fldOk F (by decide)) (xv 0)) (acons (xfld (fldOk F (by decide)) (xv 0)) (acons (xfld (fldOk F (by decide)) (xv 0)) (acons (xv 2) (acons (xv 1) da_nil)))))))
  dss_nil)⟩
abbrev N_with_bound : List Str := ["loader", "there", "bound", "uses", "rows", "use", "place"]
theorem S_with_bound : FnScope N_with_bound ["loader", "there", "bound", "uses"] d_with_bound.scope := ⟨rfl, rfl, rfl, by decide +kernel, rfl, by decide +kernel, by decide +kernel⟩
theorem C_with_bound (F : Fx hk w K mg base) {fd : FuncData} (D : FunD K d_with_bound.name d_with_bound.qual d_with_bound.params d_with_bound.body d_with_bound.scope (d_with_bound.dvs K) (d_with_bound.kws K) (He.ga K "with_bound") fd) : FnOk P w K mg base (L2.CX P w) 5 (He.ga K "with_bound") fd ["loader", "there", "bound", "uses"] (spP w K (G K) 4 phi_with_bound) :=
  fn_ok (N := N_with_bound) (sv := ev_with_bound) D S_with_bound (fun _ _ e => e) fun cdv A outer s H E hcd hr tk ps => (dss_cons (sset 4 S_with_bound.nd (xty (bf_dctA hr.units rfl) rfl (F.free 34 rfl) (acons (xv 2) da_nil)))
  (dss_cons (sfor ps (di_any (xv 3)) (gname 5 S_with_bound.nd) (dss_cons (sset 6 S_with_bound.nd (xmeth (k := 4) tk (hr.mono (by decide)) (tab1 (MtR.mok (R_Loader_meets F) (by decide))) (xv 0) (acons (xv 1) (acons (xv 5) da_nil))))
  (dss_cons (ds_if (tisnot (xv 6) xnon) (dss_cons (sput hr (xv 6) (xv 4) (xv 5))
  dss_nil) dss_nil)
  dss_nil)))
  (dss_cons (ds_ret (xty (bf_tupA rfl) rfl (F.free 11 rfl) (acons (de_lc kpV_ok rfl S_with_bound.nd (di_any (xbf (bf_srtA hr.units rfl) rfl (F.free 31 rfl) (acons (xv 4) da_nil))) (blkOk_by (own := [("use", 5)]) (by kernel_rfl)) (by decide) (fun _ _ _ _ _ => (gname 5 S_with_bound.nd)) (fun _ _ _ _ _ => dts_nil) (fun _ _ _ _ _ => (de_tup (acons (xv 5) (acons (xix hr (xv 4) (xv 5)) da_nil)))) (by intro _; rfl)) da_nil)))
  dss_nil)))
theorem R_with_bound (F : Fx hk w K mg base) : FnR P w K mg base (G K) (He.ga K "with_bound") ["loader", "there", "bound", "uses"] 5 [] phi_with_bound := by
  obtain ⟨fd, D⟩ := F.def_ (d := d_with_bound) 16 rfl
  exact ⟨fd, [], D.kp, .nil, (D.bindsN (fun kV doc pm an cdv ct us hl => (by rcases us with _ | ⟨_, _ | ⟨_, _ | ⟨_, _ | ⟨_, _ | ⟨_, us⟩⟩⟩⟩⟩ <;> first | (cases hl; done) | rfl))), C_with_bound F D⟩
abbrev N_Program_uses : List Str := ["self", "found", "at", "module", "row", "word", "name"]
theorem S_Program_uses : FnScope N_Program_uses ["self"] d_Program_uses.scope := ⟨rfl, rfl, rfl, by decide +kernel, rfl, by decide +kernel, by decide +kernel⟩
theorem R_Program_uses (F : Fx hk w K mg base) : MtR P w K mg base (G K) "Program" "uses" ["self"] 1 phi_Program_uses := by
  obtain ⟨fd, D⟩ := F.def_ (d := d_Program_uses) 17 rfl
  exact ⟨He.cls_ok (F.fact 106 rfl), _, fd, He.meth_ok (F.fact 113 rfl), (D.bindsN (fun kV doc pm an cdv ct us hl => (by rcases us with _ | ⟨_, _ | ⟨_, us⟩⟩ <;> first | (cases hl; done) | rfl))), fn_ok (N := N_Program_uses) (sv := ev_Program_uses) D S_Program_uses (fun _ _ e => e) fun cdv A outer s H E hcd hr tk ps => (dss_cons (sset 1 S_Program_uses.nd de_dct0)
  (dss_cons (sfor ps (ienum (F.free 35 rfl) (acons (xix hr (xfld (fldOk F (by decide)) (xv 0)) xint) da_nil)) (gtup (gcons (gname 2 S_Program_uses.nd) (gcons (gname 3 S_Program_uses.nd) dgs_nil))) (dss_cons (sfor ps (di_any (xv 3)) (gname 4 S_Program_uses.nd) (dss_cons (sfor ps (di_any (xix hr (xv 4) xint)) (gtup (gcons (gname 5 S_Program_uses.nd) (gcons (gname 6 S_Program_uses.nd) dgs_nil))) (dss_cons (sput hr xtrue (xv 1) (de_tup (acons (xv 2) (acons (xv 5) (acons (xv 6) da_nil)))))
  dss_nil))
  dss_nil))
  dss_nil))
  (dss_cons (ds_ret (xbf (bf_srtA hr.units rfl) rfl (F.free 31 rfl) (acons (xv 1) da_nil)))
  dss_nil)))⟩
abbrev N_uses_there : List Str := ["loader", "there", "use"]
theorem S_uses_there : FnScope N_uses_there ["loader", "there"] d_uses_there.scope := ⟨rfl, rfl, rfl, by decide +kernel, rfl, by decide +kernel, by decide +kernel⟩
theorem C_uses_there (F : Fx hk w K mg base) {fd : FuncData} (D : FunD K d_uses_there.name d_uses_there.qual d_uses_there.params d_uses_there.body d_uses_there.scope (d_uses_there.dvs K) (d_uses_there.kws K) (He.ga K "uses_there") fd) : FnOk P w K mg base (L2.CX P w) 2 (He.ga K "uses_there") fd ["loader", "there"] (spP w K (G K) 2 phi_uses_there) :=
  fn_ok (N := N_uses_there) (sv := ev_uses_there) D S_uses_there (fun _ _ e => e) fun cdv A outer s H E hcd hr tk ps => (dss_cons (ds_ret (de_lc kpV_ok rfl S_uses_there.nd (di_any (xmeth0 (k := 1) tk (hr.mono (by decide)) (tab1 (MtR.mok (R_Program_uses F) (by decide))) (xfld (fldOk F (by decide)) (xv 0)))) (blkOk_by (own := [("use", 2)]) (by kernel_rfl)) (by decide) (fun _ _ _ _ _ => (gname 2 S_uses_there.nd)) (fun _ _ _ _ _ => (dts_one (tin hr (xix hr (xv 2) xint) (xv 1)))) (fun _ _ _ _ _ => (xv 2)) (by intro _; rfl)))
  dss_nil)
theorem R_uses_there (F : Fx hk w K mg base) : FnR P w K mg base (G K) (He.ga K "uses_there") ["loader", "there"] 2 [] phi_uses_there := by
  obtain ⟨fd, D⟩ := F.def_ (d := d_uses_there) 18 rfl
  exact ⟨fd, [], D.kp, .nil, (D.bindsN (fun kV doc pm an cdv ct us hl => (by rcases us with _ | ⟨_, _ | ⟨_, _ | ⟨_, us⟩⟩⟩ <;> first | (cases hl; done) | rfl))), C_uses_there F D⟩
abbrev N_first_of : List Str := ["loader", "there"]
theorem S_first_of : FnScope N_first_of ["loader"] d_first_of.scope := ⟨rfl, rfl, rfl, by decide +kernel, rfl, by decide +kernel, by decide +kernel⟩
theorem C_first_of (F : Fx hk w K mg base) {fd : FuncData} (D : FunD K d_first_of.name d_first_of.qual d_first_of.params d_first_of.body d_first_of.scope (d_first_of.dvs K) (d_first_of.kws K) (He.ga K "first_of") fd) : FnOk P w K mg base (L2.CX P w) 6 (He.ga K "first_of") fd ["loader"] (spP w K (G K) 1 phi_first_of) :=
  fn_ok (N := N_first_of) (sv := ev_first_of) D S_first_of (fun _ _ e => e) fun cdv A outer s H E hcd hr tk ps => (dss_cons (sset 1 S_first_of.nd (xtrg1 (F.free 11 rfl) (F.free 20 rfl) (xbf (lenT (k := 1) (hr.mono (by decide)) (tabL1 (R_Program_len F))) rfl (F.free 10 rfl) (acons (xprop (R_Program_modules F) (hr.mono (by decide)) (xfld (fldOk F (by decide)) (xv 0))) da_nil))))
  (dss_cons (ds_ret (de_tup (acons (xv 1) (acons (xcall tk (R_with_bound F) (hr.mono (by decide)) (F.glo 37 rfl) (acons (xv 0) (acons (xv 1) (acons (de_tup da_nil) (acons (de_ite (teq hr (xfld (fldOk F (by decide)) (xv 0)) xstr) (xcall tk (R_uses_there F) (hr.mono (by decide)) (F.glo 36 rfl) (acons (xv 0) (acons (xv 1) da_nil))) (de_lst da_nil)) da_nil))))) da_nil))))
  dss_nil))
theorem R_first_of (F : Fx hk w K mg base) : FnR P w K mg base (G K) (He.ga K "first_of") ["loader"] 6 [] phi_first_of := by
  obtain ⟨fd, D⟩ := F.def_ (d := d_first_of) 19 rfl
  exact ⟨fd, [], D.kp, .nil, (D.bindsN (fun kV doc pm an cdv ct us hl => (by rcases us with _ | ⟨_, _ | ⟨_, us⟩⟩ <;> first | (cases hl; done) | rfl))), C_first_of F D⟩
abbrev N_check_loader : List Str := ["loader"]
theorem S_check_loader : FnScope N_check_loader ["loader"] d_check_loader.scope := ⟨rfl, rfl, rfl, by decide +kernel, rfl, by decide +kernel, by decide +kernel⟩
theorem C_check_loader (F : Fx hk w K mg base) {fd : FuncData} (D : FunD K d_check_loader.name d_check_loader.qual d_check_loader.params d_check_loader.body d_check_loader.scope (d_check_loader.dvs K) (d_check_loader.kws K) (He.ga K "check_loader") fd) : FnOk P w K mg base (L2.CX P w) 1 (He.ga K "check_loader") fd ["loader"] (spP w K (G K) 1 phi_check_loader) :=
  fn_ok (N := N_check_loader) (sv := ev_check_loader) D S_check_loader (fun _ _ e => e) fun cdv A outer s H E hcd hr tk ps => (dss_cons (ds_if (dt_not (tval (xisiO (isaO_ok (C := "Loader") (own := owns) (fun _ => rfl) (F.ex 10 rfl)) (F.free 1 rfl) (F.glo 29 rfl) (xv 0)))) (dss_cons (sraise tk (F.fact 4 rfl) rfl (F.glo 5 rfl) xstr)
  dss_nil) dss_nil)
  dss_nil)
theorem R_check_loader (F : Fx hk w K mg base) : FnR P w K mg base (G K) (He.ga K "check_loader") ["loader"] 1 [] phi_check_loader := by
  obtain ⟨fd, D⟩ := F.def_ (d := d_check_loader) 20 rfl
  exact ⟨fd, [], D.kp, .nil, (D.bindsN (fun kV doc pm an cdv ct us hl => (by rcases us with _ | ⟨_, _ | ⟨_, us⟩⟩ <;> first | (cases hl; done) | rfl))), C_check_loader F D⟩
abbrev N_first_state : List Str := ["loader"]
theorem S_first_state : FnScope N_first_state ["loader"] d_first_state.scope := ⟨rfl, rfl, rfl, by decide +kernel, rfl, by decide +kernel, by decide +kernel⟩
theorem C_first_state (F : Fx hk w K mg base) {fd : FuncData} (D : FunD K d_first_state.name d_first_state.qual d_first_state.params d_first_state.body d_first_state.scope (d_first_state.dvs K) (d_first_state.kws K) (He.ga K "first_state") fd) : FnOk P w K mg base (L2.CX P w) 7 (He.ga K "first_state") fd ["loader"] (spP w K (G K) 1 phi_first_state) :=
  fn_ok (N := N_first_state) (sv := ev_first_state) D S_first_state (fun _ _ e => e) fun cdv A outer s H E hcd hr tk ps => (dss_cons (sexpr (xcall tk (R_check_loader F) (hr.mono (by decide)) (F.glo 39 rfl) (acons (xv 0) da_nil)))
  (dss_cons (ds_ret (xcall tk (R_first_of F) (hr.mono (by decide)) (F.glo 38 rfl) (acons (xv 0) da_nil)))
  dss_nil))
theorem R_first_state (F : Fx hk w K mg base) : FnR P w K mg base (G K) (He.ga K "first_state") ["loader"] 7 [] phi_first_state := by
  obtain ⟨fd, D⟩ := F.def_ (d := d_first_state) 21 rfl
  exact ⟨fd, [], D.kp, .nil, (D.bindsN (fun kV doc pm an cdv ct us hl => (by rcases us with _ | ⟨_, _ | ⟨_, us⟩⟩ <;> first | (cases hl; done) | rfl))), C_first_state F D⟩
end
end MPK36
set_option Elab.async false
set_option linter.all false
set_option maxRecDepth 100000
set_option maxHeartbeats 1000000
namespace MPK36
open PySem PySem.Spec PyProof.Rows L2 MP
section
variable {w : World} {K : PySem.W.Frag} {mg : Str → Option Value} {base : Heap}
abbrev N_deeds_in : List Str := ["loader", "state", "every", "found", "use", "module"]
theorem S_deeds_in : FnScope N_deeds_in ["loader", "state"] d_deeds_in.scope := ⟨rfl, rfl, rfl, by decide +kernel, rfl, by decide +kernel, by decide +kernel⟩
theorem C_deeds_in (F : Fx hk w K mg base) {fd : FuncData} (D : FunD K d_deeds_in.name d_deeds_in.qual d_deeds_in.params d_deeds_in.body d_deeds_in.scope (d_deeds_in.dvs K) (d_deeds_in.kws K) (He.ga K "deeds_in") fd) : FnOk P w K mg base (L2.CX P w) 3 (He.ga K "deeds_in") fd ["loader", "state"] (spP w K (G K) 2 phi_deeds_in) :=
  fn_ok (N := N_deeds_in) (sv := ev_deeds_in) D S_deeds_in (fun _ _ e => e) fun cdv A outer s H E hcd hr tk ps => (dss_cons (sset 2 S_deeds_in.nd (xlrg1 (F.free 32 rfl) (F.free 20 rfl) (xbf (lenT (k := 1) (hr.mono (by decide)) (tabL1 (R_Program_len F))) rfl (F.free 10 rfl) (acons (xprop (R_Program_modules F) (hr.mono (by decide)) (xfld (fldOk F (by decide)) (xv 0))) da_nil))))
  (dss_cons (by first | exact sset 3 S_deeds_in.nd (de_lc kpM_ok rfl S_deeds_in.nd (di_any (xcall tk (R_uses_there F) (hr.mono (by decide)) (F.glo 36 rfl) (acons (xv 0) (acons (xix hr (xv 1) xint) da_nil)))) (blkOk_by (own := [("use", 4)]) (by kernel_rfl)) (by decide) (fun _ _ _ _ _ => (gname 4 S_deeds_in.nd)) (fun _ _ _ _ _ => dts_nil) (fun _ _ _ _ _ => (de_tup (acons xstr (acons (xv 4) da_nil)))) (by intro _; rfl)) | exact ds_setLc kpM_ok rfl S_deeds_in.nd rfl rfl rfl (di_any (xcall tk (R_uses_there F) (hr.mono (by decide)) (F.glo 36 rfl) (acons (xv 0) (acons (xix hr (xv 1) xint) da_nil)))) (blkOk_by (own := [("use", 4)]) (by kernel_rfl)) (by decide) (fun _ _ _ _ _ => (gname 4 S_deeds_in.nd)) (fun _ _ _ _ _ => dts_nil) (fun _ _ _ _ _ => (de_tup (acons xstr (acons (xv 4) da_nil)))) (by intro _; rfl))
  (dss_cons (sexpr (xmt pa_list sl_extend rfl mt_ext (xv 3) (acons (de_lc kpV_ok rfl S_deeds_in.nd (di_any (xv 2)) (blkOk_by (own := [("module", 5)]) (by kernel_rfl)) (by decide) (fun _ _ _ _ _ => (gname 5 S_deeds_in.nd)) (fun _ _ _ _ _ => (dts_one (tnotin hr (xv 5) (xix hr (xv 1) xint)))) (fun _ _ _ _ _ => (de_tup (acons xstr (acons (xv 5) da_nil)))) (by intro _; rfl)) da_nil)))
  (dss_cons (ds_ret (de_lst (astar (xv 3) (astar (de_lc kpV_ok rfl S_deeds_in.nd (di_any (xix hr (xv 1) xint)) (blkOk_by (own := [("module", 5)]) (by kernel_rfl)) (by decide) (fun _ _ _ _ _ => (gname 5 S_deeds_in.nd)) (fun _ _ _ _ _ => (dts_one (tgt hr (xv 5) xint))) (fun _ _ _ _ _ => (de_tup (acons xstr (acons (xv 5) da_nil)))) (by intro _; rfl)) da_nil))))
  dss_nil))))
theorem R_deeds_in (F : Fx hk w K mg base) : FnR P w K mg base (G K) (He.ga K "deeds_in") ["loader", "state"] 3 [] phi_deeds_in := by
  obtain ⟨fd, D⟩ := F.def_ (d := d_deeds_in) 22 rfl
  exact ⟨fd, [], D.kp, .nil, (D.bindsN (fun kV doc pm an cdv ct us hl => (by rcases us with _ | ⟨_, _ | ⟨_, _ | ⟨_, us⟩⟩⟩ <;> first | (cases hl; done) | rfl))), C_deeds_in F D⟩
abbrev N_used : List Str := ["loader", "state", "use", "rows", "bound"]
theorem S_used : FnScope N_used ["loader", "state", "use"] d_used.scope := ⟨rfl, rfl, rfl, by decide +kernel, rfl, by decide +kernel, by decide +kernel⟩
theorem C_used (F : Fx hk w K mg base) {fd : FuncData} (D : FunD K d_used.name d_used.qual d_used.params d_used.body d_used.scope (d_used.dvs K) (d_used.kws K) (He.ga K "used") fd) : FnOk P w K mg base (L2.CX P w) 6 (He.ga K "used") fd ["loader", "state", "use"] (spP w K (G K) 3 phi_used) :=
  fn_ok (N := N_used) (sv := ev_used) D S_used (fun _ _ e => e) fun cdv A outer s H E hcd hr tk ps => (dss_cons (sset 3 S_used.nd (xty (bf_dctA hr.units rfl) rfl (F.free 34 rfl) (acons (xix hr (xv 1) xint) da_nil)))
  (dss_cons (ds_if (twh (dw_or (tin hr (xv 2) (xv 3)) (dw_or1 (teq hr (xfld (fldOk F (by decide)) (xv 0)) xstr)))) (dss_cons (ds_ret (de_tup (acons (xv 1) (acons (xmt pa_dict sl_get rfl (mt_get hr.units) (xv 3) (acons (xv 2) da_nil)) da_nil))))
  dss_nil) dss_nil)
  (dss_cons (sset 4 S_used.nd (xcall tk (R_with_bound F) (hr.mono (by decide)) (F.glo 37 rfl) (acons (xv 0) (acons (xix hr (xv 1) xint) (acons (xix hr (xv 1) xint) (acons (de_lst (acons (xv 2) da_nil)) da_nil))))))
  (dss_cons (ds_ret (de_tup (acons (de_tup (acons (xix hr (xv 1) xint) (acons (xv 4) da_nil))) (acons (xmt pa_dict sl_get rfl (mt_get hr.units) (xty (bf_dctA hr.units rfl) rfl (F.free 34 rfl) (acons (xv 4) da_nil)) (acons (xv 2) da_nil)) da_nil))))
  dss_nil))))
theorem R_used (F : Fx hk w K mg base) : FnR P w K mg base (G K) (He.ga K "used") ["loader", "state", "use"] 6 [] phi_used := by
  obtain ⟨fd, D⟩ := F.def_ (d := d_used) 23 rfl
  exact ⟨fd, [], D.kp, .nil, (D.bindsN (fun kV doc pm an cdv ct us hl => (by rcases us with _ | ⟨_, _ | ⟨_, _ | ⟨_, _ | ⟨_, us⟩⟩⟩⟩ <;> first | (cases hl; done) | rfl))), C_used F D⟩
abbrev N_done : List Str := ["loader", "state", "deed", "rest", "there", "bound", "late", "some", "use", "place", "module"]
theorem S_done : FnScope N_done ["loader", "state", "deed"] d_done.scope := ⟨rfl, rfl, rfl, by decide +kernel, rfl, by decide +kernel, by decide +kernel⟩
theorem C_done (F : Fx hk w K mg base) {fd : FuncData} (D : FunD K d_done.name d_done.qual d_done.params d_done.body d_done.scope (d_done.dvs K) (d_done.kws K) (He.ga K "done") fd) : FnOk P w K mg base (L2.CX P w) 7 (He.ga K "done") fd ["loader", "state", "deed"] (spP w K (G K) 3 phi_done) :=
  fn_ok (N := N_done) (sv := ev_done) D S_done (fun _ _ e => e) fun cdv A outer s H E hcd hr tk ps => (dss_cons (sasg (xv 1) (gtup (gcons (gname 4 S_done.nd) (gcons (gname 5 S_done.nd) dgs_nil))))
  (dss_cons (ds_if (teq hr (xix hr (xv 2) xint) xstr) (dss_cons (ds_ret (xcall tk (R_used F) (hr.mono (by decide)) (F.glo 44 rfl) (acons (xv 0) (acons (xv 1) (acons (xix hr (xv 2) xint) da_nil)))))
  dss_nil) dss_nil)
  (dss_cons (ds_if (teq hr (xix hr (xv 2) xint) xstr) (dss_cons (sset 6 S_done.nd (xty (bf_tupA rfl) rfl (F.free 11 rfl) (acons (xbf (bf_srtA hr.units rfl) rfl (F.free 31 rfl) (acons (de_lst (astar (xv 4) (acons (xix hr (xv 2) xint) da_nil))) da_nil)) da_nil)))
  (dss_cons (sset 7 S_done.nd (de_ite (teq hr (xfld (fldOk F (by decide)) (xv 0)) xstr) (de_lc kpV_ok rfl S_done.nd (di_any (xcall tk (R_uses_there F) (hr.mono (by decide)) (F.glo 36 rfl) (acons (xv 0) (acons (xv 6) da_nil)))) (blkOk_by (own := [("use", 8)]) (by kernel_rfl)) (by decide) (fun _ _ _ _ _ => (gname 8 S_done.nd)) (fun _ _ _ _ _ => (dts_one (teq hr (xix hr (xv 8) xint) (xix hr (xv 2) xint)))) (fun _ _ _ _ _ => (xv 8)) (by intro _; rfl)) (de_lst da_nil)))
  (dss_cons (ds_ret (de_tup (acons (de_tup (acons (xv 6) (acons (xcall tk (R_with_bound F) (hr.mono (by decide)) (F.glo 37 rfl) (acons (xv 0) (acons (xv 6) (acons (xv 5) (acons (xv 7) da_nil))))) da_nil))) (acons xnon da_nil))))
  dss_nil))) dss_nil)
  (dss_cons (by first | exact sset 3 S_done.nd (de_lc kpV_ok rfl S_done.nd (di_any (xv 5)) (blkOk_by (own := [("use", 8), ("place", 9)]) (by kernel_rfl)) (by decide) (fun _ _ _ _ _ => (gtup (gcons (gname 8 S_done.nd) (gcons (gname 9 S_done.nd) dgs_nil)))) (fun _ _ _ _ _ => (dts_one (tne hr (xix hr (xv 8) xint) (xix hr (xv 2) xint)))) (fun _ _ _ _ _ => (de_tup (acons (xv 8) (acons (de_ite (teq hr (xv 9) (xix hr (xv 2) xint)) (xg (gloK_ok (x := "GONE") (d := c_GONE) F.kin F.ns (F.ex 12 rfl))) (xv 9)) da_nil)))) (by intro _; rfl)) | exact ds_setLc kpV_ok rfl S_done.nd rfl rfl rfl (di_any (xv 5)) (blkOk_by (own := [("use", 8), ("place", 9)]) (by kernel_rfl)) (by decide) (fun _ _ _ _ _ => (gtup (gcons (gname 8 S_done.nd) (gcons (gname 9 S_done.nd) dgs_nil)))) (fun _ _ _ _ _ => (dts_one (tne hr (xix hr (xv 8) xint) (xix hr (xv 2) xint)))) (fun _ _ _ _ _ => (de_tup (acons (xv 8) (acons (de_ite (teq hr (xv 9) (xix hr (xv 2) xint)) (xg (gloK_ok (x := "GONE") (d := c_GONE) F.kin F.ns (F.ex 12 rfl))) (xv 9)) da_nil)))) (by intro _; rfl))
  (dss_cons (ds_ret (de_tup (acons (de_tup (acons (xty (bf_tupA rfl) rfl (F.free 11 rfl) (acons (de_lc kpV_ok rfl S_done.nd (di_any (xv 4)) (blkOk_by (own := [("module", 10)]) (by kernel_rfl)) (by decide) (fun _ _ _ _ _ => (gname 10 S_done.nd)) (fun _ _ _ _ _ => (dts_one (tne hr (xv 10) (xix hr (xv 2) xint)))) (fun _ _ _ _ _ => (xv 10)) (by intro _; rfl)) da_nil)) (acons (xty (bf_tupA rfl) rfl (F.free 11 rfl) (acons (xv 3) da_nil)) da_nil))) (acons xnon da_nil))))
  dss_nil)))))
theorem R_done (F : Fx hk w K mg base) : FnR P w K mg base (G K) (He.ga K "done") ["loader", "state", "deed"] 7 [] phi_done := by
  obtain ⟨fd, D⟩ := F.def_ (d := d_done) 24 rfl
  exact ⟨fd, [], D.kp, .nil, (D.bindsN (fun kV doc pm an cdv ct us hl => (by rcases us with _ | ⟨_, _ | ⟨_, _ | ⟨_, _ | ⟨_, us⟩⟩⟩⟩ <;> first | (cases hl; done) | rfl))), C_done F D⟩
abbrev N_reach : List Str := ["loader", "start", "found", "waiting", "state", "deed", "late"]
theorem S_reach : FnScope N_reach ["loader"] d_reach.scope := ⟨rfl, rfl, rfl, by decide +kernel, rfl, by decide +kernel, by decide +kernel⟩
theorem C_reach (F : Fx hk w K mg base) {fd : FuncData} (D : FunD K d_reach.name d_reach.qual d_reach.params d_reach.body d_reach.scope (d_reach.dvs K) (d_reach.kws K) (He.ga K "reach") fd) : FnOk P w K mg base (L2.CX P w) 8 (He.ga K "reach") fd ["loader"] (spP w K (G K) 1 phi_reach) :=
  fn_ok (N := N_reach) (sv := ev_reach) D S_reach (fun _ _ e => e) fun cdv A outer s H E hcd hr tk ps => (dss_cons (sset 1 S_reach.nd (xcall tk (R_first_of F) (hr.mono (by decide)) (F.glo 38 rfl) (acons (xv 0) da_nil)))
  (dss_cons (by first | exact spar 2 3 S_reach.nd (acons (xdct hr (pcons (xv 1) (de_tup da_nil) pnil)) (acons (de_lstM (acons (xv 1) da_nil)) da_nil)) | exact sparC 2 3 S_reach.nd (acons (xdct hr (pcons (xv 1) (de_tup da_nil) pnil)) (acons (de_lstM (acons (xv 1) da_nil)) da_nil)))
  (dss_cons (ds_while 2000 ps (tne hr (xv 3) (de_lst da_nil)) (dss_cons (sset 4 S_reach.nd (xmt pa_list sl_pop rfl mt_popD (xv 3) (acons xint da_nil)))
  (dss_cons (sfor ps (di_any (xcall tk (R_deeds_in F) (hr.mono (by decide)) (F.glo 41 rfl) (acons (xv 0) (acons (xv 4) da_nil)))) (gname 5 S_reach.nd) (dss_cons (sset 6 S_reach.nd (xix hr (xcall tk (R_done F) (hr.mono (by decide)) (F.glo 45 rfl) (acons (xv 0) (acons (xv 4) (acons (xv 5) da_nil)))) xint))
  (dss_cons (ds_if (tnotin hr (xv 6) (xv 2)) (dss_cons (ds_if (teq hr (xbf (lenT (k := 1) (hr.mono (by decide)) (tabL1 (R_Program_len F))) rfl (F.free 10 rfl) (acons (xv 2) da_nil)) (xg (gloK_ok (x := "MOST_STATES") (d := c_MOST_STATES) F.kin F.ns (F.ex 11 rfl)))) (dss_cons (sraise tk (F.fact 42 rfl) rfl (F.glo 43 rfl) xstr)
  dss_nil) dss_nil)
  (dss_cons (sput hr (de_tup (astar (xix hr (xv 2) (xv 4)) (acons (xv 5) da_nil))) (xv 2) (xv 6))
  (dss_cons (sexpr (xmt pa_list sl_append rfl mt_app (xv 3) (acons (xv 6) da_nil)))
  dss_nil))) dss_nil)
  dss_nil)))
  dss_nil)))
  (dss_cons (ds_ret (xv 2))
  dss_nil))))
theorem R_reach (F : Fx hk w K mg base) : FnR P w K mg base (G K) (He.ga K "reach") ["loader"] 8 [] phi_reach := by
  obtain ⟨fd, D⟩ := F.def_ (d := d_reach) 25 rfl
  exact ⟨fd, [], D.kp, .nil, (D.bindsN (fun kV doc pm an cdv ct us hl => (by rcases us with _ | ⟨_, _ | ⟨_, us⟩⟩ <;> first | (cases hl; done) | rfl))), C_reach F D⟩
abbrev N_all_states : List Str := ["loader"]
theorem S_all_states : FnScope N_all_states ["loader"] d_all_states.scope := ⟨rfl, rfl, rfl, by decide +kernel, rfl, by decide +kernel, by decide +kernel⟩
theorem C_all_states (F : Fx hk w K mg base) {fd : FuncData} (D : FunD K d_all_states.name d_all_states.qual d_all_states.params d_all_states.body d_all_states.scope (d_all_states.dvs K) (d_all_states.kws K) (He.ga K "all_states") fd) : FnOk P w K mg base (L2.CX P w) 9 (He.ga K "all_states") fd ["loader"] (spP w K (G K) 1 phi_all_states) :=
  fn_ok (N := N_all_states) (sv := ev_all_states) D S_all_states (fun _ _ e => e) fun cdv A outer s H E hcd hr tk ps => (dss_cons (sexpr (xcall tk (R_check_loader F) (hr.mono (by decide)) (F.glo 39 rfl) (acons (xv 0) da_nil)))
  (dss_cons (ds_ret (xty (bf_lstA rfl) rfl (F.free 32 rfl) (acons (xcall tk (R_reach F) (hr.mono (by decide)) (F.glo 46 rfl) (acons (xv 0) da_nil)) da_nil)))
  dss_nil))
theorem R_all_states (F : Fx hk w K mg base) : FnR P w K mg base (G K) (He.ga K "all_states") ["loader"] 9 [] phi_all_states := by
  obtain ⟨fd, D⟩ := F.def_ (d := d_all_states) 26 rfl
  exact ⟨fd, [], D.kp, .nil, (D.bindsN (fun kV doc pm an cdv ct us hl => (by rcases us with _ | ⟨_, _ | ⟨_, us⟩⟩ <;> first | (cases hl; done) | rfl))), C_all_states F D⟩
abbrev N_Steady_init : List Str := ["self", "states"]
theorem S_Steady_init : FnScope N_Steady_init ["self", "states"] d_Steady_init.scope := ⟨rfl, rfl, rfl, by decide +kernel, rfl, by decide +kernel, by decide +kernel⟩
theorem R_Steady_init (F : Fx hk w K mg base) : MkR P w K mg base (G K) "Steady" ["self", "states"] 1 phi_Steady_init := by
  obtain ⟨fd, D⟩ := F.def_ (d := d_Steady_init) 27 rfl
  exact ⟨(by decide : ("Steady" : Str) ∈ owns), _, fd, He.mkr_ok (F.fact 114 rfl), (D.bindsN (fun kV doc pm an cdv ct us hl => (by rcases us with _ | ⟨_, _ | ⟨_, _ | ⟨_, us⟩⟩⟩ <;> first | (cases hl; done) | rfl))), fnI_ok (N := N_Steady_init) (sv := ev_Steady_init) D S_Steady_init (fun _ _ e => e) fun cdv A outer s H E hr tk ps => (dss_cons (sfld (fldOk F (by decide)) (xty (bf_lstA rfl) rfl (F.free 32 rfl) (acons (xv 1) da_nil)) (xv 0))
  dss_nil)⟩
abbrev N_breaks : List Str := ["loader", "state", "deed", "wish", "place"]
theorem S_breaks : FnScope N_breaks ["loader", "state", "deed", "wish"] d_breaks.scope := ⟨rfl, rfl, rfl, by decide +kernel, rfl, by decide +kernel, by decide +kernel⟩
theorem C_breaks (F : Fx hk w K mg base) {fd : FuncData} (D : FunD K d_breaks.name d_breaks.qual d_breaks.params d_breaks.body d_breaks.scope (d_breaks.dvs K) (d_breaks.kws K) (He.ga K "breaks") fd) : FnOk P w K mg base (L2.CX P w) 8 (He.ga K "breaks") fd ["loader", "state", "deed", "wish"] (spP w K (G K) 4 phi_breaks) :=
  fn_ok (N := N_breaks) (sv := ev_breaks) D S_breaks (fun _ _ e => e) fun cdv A outer s H E hcd hr tk ps => (dss_cons (ds_if (tne hr (xix hr (xv 2) xint) xstr) (dss_cons (ds_ret xfalse)
  dss_nil) dss_nil)
  (dss_cons (sset 4 S_breaks.nd (xix hr (xcall tk (R_done F) (hr.mono (by decide)) (F.glo 45 rfl) (acons (xv 0) (acons (xv 1) (acons (xv 2) da_nil)))) xint))
  (dss_cons (ds_if (teq hr (xv 3) xstr) (dss_cons (ds_ret (xeq hr (xv 4) (xg (gloK_ok (x := "GONE") (d := c_GONE) F.kin F.ns (F.ex 12 rfl)))))
  dss_nil) dss_nil)
  (dss_cons (ds_ret (de_and (xisnot (xv 4) xnon) (de_and (xne hr (xv 4) (xg (gloK_ok (x := "GONE") (d := c_GONE) F.kin F.ns (F.ex 12 rfl)))) (de_one (xne hr (xv 4) (xmeth (k := 4) tk (hr.mono (by decide)) (tab1 (MtR.mok (R_Loader_meets F) (by decide))) (xv 0) (acons (xix hr (xv 1) xint) (acons (xix hr (xv 2) xint) da_nil))))))))
  dss_nil))))
theorem R_breaks (F : Fx hk w K mg base) : FnR P w K mg base (G K) (He.ga K "breaks") ["loader", "state", "deed", "wish"] 8 [] phi_breaks := by
  obtain ⟨fd, D⟩ := F.def_ (d := d_breaks) 28 rfl
  exact ⟨fd, [], D.kp, .nil, (D.bindsN (fun kV doc pm an cdv ct us hl => (by rcases us with _ | ⟨_, _ | ⟨_, _ | ⟨_, _ | ⟨_, _ | ⟨_, us⟩⟩⟩⟩⟩ <;> first | (cases hl; done) | rfl))), C_breaks F D⟩
abbrev N_check_wish_loading : List Str := ["loader", "wish"]
theorem S_check_wish_loading : FnScope N_check_wish_loading ["loader", "wish"] d_check_wish_loading.scope := ⟨rfl, rfl, rfl, by decide +kernel, rfl, by decide +kernel, by decide +kernel⟩
theorem C_check_wish_loading (F : Fx hk w K mg base) {fd : FuncData} (D : FunD K d_check_wish_loading.name d_check_wish_loading.qual d_check_wish_loading.params d_check_wish_loading.body d_check_wish_loading.scope (d_check_wish_loading.dvs K) (d_check_wish_loading.kws K) (He.ga K "check_wish_loading") fd) : FnOk P w K mg base (L2.CX P w) 2 (He.ga K "check_wish_loading") fd ["loader", "wish"] (spP w K (G K) 2 phi_check_wish_loading) :=
  fn_ok (N := N_check_wish_loading) (sv := ev_check_wish_loading) D S_check_wish_loading (fun _ _ e => e) fun cdv A outer s H E hcd hr tk ps => (dss_cons (sexpr (xcall tk (R_check_loader F) (hr.mono (by decide)) (F.glo 39 rfl) (acons (xv 0) da_nil)))
  (dss_cons (ds_if (dt_not (tval (xcall tk (R_is_word F) (hr.mono (by decide)) (F.glo 3 rfl) (acons (xv 1) (acons (xg (gloK_ok (x := "LOADER_WISHES") (d := c_LOADER_WISHES) F.kin F.ns (F.ex 13 rfl))) da_nil))))) (dss_cons (sraise tk (F.fact 50 rfl) rfl (F.glo 51 rfl) xstr)
  dss_nil) dss_nil)
  dss_nil))
theorem R_check_wish_loading (F : Fx hk w K mg base) : FnR P w K mg base (G K) (He.ga K "check_wish_loading") ["loader", "wish"] 2 [] phi_check_wish_loading := by
  obtain ⟨fd, D⟩ := F.def_ (d := d_check_wish_loading) 29 rfl
  exact ⟨fd, [], D.kp, .nil, (D.bindsN (fun kV doc pm an cdv ct us hl => (by rcases us with _ | ⟨_, _ | ⟨_, _ | ⟨_, us⟩⟩⟩ <;> first | (cases hl; done) | rfl))), C_check_wish_loading F D⟩
abbrev N_Steady_shows : List Str := ["self", "loader", "wish", "known", "state", "deed"]
theorem S_Steady_shows : FnScope N_Steady_shows ["self", "loader", "wish"] d_Steady_shows.scope := ⟨rfl, rfl, rfl, by decide +kernel, rfl, by decide +kernel, by decide +kernel⟩
theorem R_Steady_shows (F : Fx hk w K mg base) : MtR P w K mg base (G K) "Steady" "shows" ["self", "loader", "wish"] 9 phi_Steady_shows := by
  obtain ⟨fd, D⟩ := F.def_ (d := d_Steady_shows) 30 rfl
  exact ⟨He.cls_ok (F.fact 115 rfl), _, fd, He.meth_ok (F.fact 116 rfl), (D.bindsN (fun kV doc pm an cdv ct us hl => (by rcases us with _ | ⟨_, _ | ⟨_, _ | ⟨_, _ | ⟨_, us⟩⟩⟩⟩ <;> first | (cases hl; done) | rfl))), fn_ok (N := N_Steady_shows) (sv := ev_Steady_shows) D S_Steady_shows (fun _ _ e => e) fun cdv A outer s H E hcd hr tk ps => (dss_cons (sexpr (xcall tk (R_check_wish_loading F) (hr.mono (by decide)) (F.glo 52 rfl) (acons (xv 1) (acons (xv 2) da_nil))))
  (dss_cons (by first | exact sset 3 S_Steady_shows.nd (xdc hr S_Steady_shows.nd (di_any (xfld (fldOk F (by decide)) (xv 0))) (blkOk_by (own := [("state", 4)]) (by kernel_rfl)) (fun _ _ _ _ _ => (gname 4 S_Steady_shows.nd)) (fun _ _ _ _ _ => dts_nil) (fun _ _ _ _ _ => (xv 4)) (fun _ _ _ _ _ => xtrue)) | exact ssetDc (i := 3) hr S_Steady_shows.nd (di_any (xfld (fldOk F (by decide)) (xv 0))) (blkOk_by (own := [("state", 4)]) (by kernel_rfl)) (fun _ _ _ _ _ => (gname 4 S_Steady_shows.nd)) (fun _ _ _ _ _ => dts_nil) (fun _ _ _ _ _ => (xv 4)) (fun _ _ _ _ _ => xtrue))
  (dss_cons (ds_if (tnotin hr (xcall tk (R_first_of F) (hr.mono (by decide)) (F.glo 38 rfl) (acons (xv 1) da_nil)) (xv 3)) (dss_cons (ds_ret xfalse)
  dss_nil) dss_nil)
  (dss_cons (sfor ps (di_any (xv 3)) (gname 4 S_Steady_shows.nd) (dss_cons (sfor ps (di_any (xcall tk (R_deeds_in F) (hr.mono (by decide)) (F.glo 41 rfl) (acons (xv 1) (acons (xv 4) da_nil)))) (gname 5 S_Steady_shows.nd) (dss_cons (ds_if (twh (dw_or (tnotin hr (xix hr (xcall tk (R_done F) (hr.mono (by decide)) (F.glo 45 rfl) (acons (xv 1) (acons (xv 4) (acons (xv 5) da_nil)))) xint) (xv 3)) (dw_or1 (tval (xcall tk (R_breaks F) (hr.mono (by decide)) (F.glo 49 rfl) (acons (xv 1) (acons (xv 4) (acons (xv 5) (acons (xv 2) da_nil))))))))) (dss_cons (ds_ret xfalse)
  dss_nil) dss_nil)
  dss_nil))
  dss_nil))
  (dss_cons (ds_ret xtrue)
  dss_nil)))))⟩
abbrev N_is_deed : List Str := ["loader", "state", "thing", "use"]
theorem S_is_deed : FnScope N_is_deed ["loader", "state", "thing"] d_is_deed.scope := ⟨rfl, rfl, rfl, by decide +kernel, rfl, by decide +kernel, by decide +kernel⟩
theorem C_is_deed (F : Fx hk w K mg base) {fd : FuncData} (D : FunD K d_is_deed.name d_is_deed.qual d_is_deed.params d_is_deed.body d_is_deed.scope (d_is_deed.dvs K) (d_is_deed.kws K) (He.ga K "is_deed") fd) : FnOk P w K mg base (L2.CX P w) 4 (He.ga K "is_deed") fd ["loader", "state", "thing"] (spP w K (G K) 3 phi_is_deed) :=
  fn_ok (N := N_is_deed) (sv := ev_is_deed) D S_is_deed (fun _ _ e => e) fun cdv A outer s H E hcd hr tk ps => (dss_cons (ds_if (twh (dw_or (dt_not (tval (xisiT (isaB_ok (T := ["tuple"]) (own := owns) (fun _ => rfl) (F.ex 6 rfl)) (F.free 1 rfl) (F.free 11 rfl) (xv 2) rfl))) (dw_or (tne hr (xbf (lenT (k := 1) (hr.mono (by decide)) (tabL1 (R_Program_len F))) rfl (F.free 10 rfl) (acons (xv 2) da_nil)) xint) (dw_or1 (dt_not (tval (xcall tk (R_is_word F) (hr.mono (by decide)) (F.glo 3 rfl) (acons (xix hr (xv 2) xint) (acons (de_tup (acons xstr (acons xstr (acons xstr da_nil)))) da_nil))))))))) (dss_cons (ds_ret xfalse)
  dss_nil) dss_nil)
  (dss_cons (ds_if (tne hr (xix hr (xv 2) xint) xstr) (dss_cons (ds_ret (de_and (xcall tk (R_is_number F) (hr.mono (by decide)) (F.glo 8 rfl) (acons (xix hr (xv 2) xint) (acons xint (acons (xsub (xbf (lenT (k := 1) (hr.mono (by decide)) (tabL1 (R_Program_len F))) rfl (F.free 10 rfl) (acons (xprop (R_Program_modules F) (hr.mono (by decide)) (xfld (fldOk F (by decide)) (xv 0))) da_nil)) xint) da_nil)))) (de_one (xin hr (xv 2) (xcall tk (R_deeds_in F) (hr.mono (by decide)) (F.glo 41 rfl) (acons (xv 0) (acons (xv 1) da_nil)))))))
  dss_nil) dss_nil)
  (dss_cons (sset 3 S_is_deed.nd (xix hr (xv 2) xint))
  (dss_cons (ds_if (twh (dw_or (dt_not (tval (xisiT (isaB_ok (T := ["tuple"]) (own := owns) (fun _ => rfl) (F.ex 6 rfl)) (F.free 1 rfl) (F.free 11 rfl) (xv 3) rfl))) (dw_or (tne hr (xbf (lenT (k := 1) (hr.mono (by decide)) (tabL1 (R_Program_len F))) rfl (F.free 10 rfl) (acons (xv 3) da_nil)) xint) (dw_or1 (dt_not (tval (xcall tk (R_is_number F) (hr.mono (by decide)) (F.glo 8 rfl) (acons (xix hr (xv 3) xint) (acons xint (acons (xsub (xbf (lenT (k := 1) (hr.mono (by decide)) (tabL1 (R_Program_len F))) rfl (F.free 10 rfl) (acons (xprop (R_Program_modules F) (hr.mono (by decide)) (xfld (fldOk F (by decide)) (xv 0))) da_nil)) xint) da_nil)))))))))) (dss_cons (ds_ret xfalse)
  dss_nil) dss_nil)
  (dss_cons (ds_ret (de_and (xcall tk (R_is_number F) (hr.mono (by decide)) (F.glo 8 rfl) (acons (xix hr (xv 3) xint) (acons xint (acons (xsub (xbf (lenT (k := 1) (hr.mono (by decide)) (tabL1 (R_Program_len F))) rfl (F.free 10 rfl) (acons (xfld (fldOk F (by decide)) (xv 0)) da_nil)) xint) da_nil)))) (de_one (xin hr (xv 2) (xcall tk (R_deeds_in F) (hr.mono (by decide)) (F.glo 41 rfl) (acons (xv 0) (acons (xv 1) da_nil)))))))
  dss_nil)))))
theorem R_is_deed (F : Fx hk w K mg base) : FnR P w K mg base (G K) (He.ga K "is_deed") ["loader", "state", "thing"] 4 [] phi_is_deed := by
  obtain ⟨fd, D⟩ := F.def_ (d := d_is_deed) 31 rfl
  exact ⟨fd, [], D.kp, .nil, (D.bindsN (fun kV doc pm an cdv ct us hl => (by rcases us with _ | ⟨_, _ | ⟨_, _ | ⟨_, _ | ⟨_, us⟩⟩⟩⟩ <;> first | (cases hl; done) | rfl))), C_is_deed F D⟩
abbrev N_walked : List Str := ["loader", "history", "deed", "states", "found", "late", "place"]
theorem S_walked : FnScope N_walked ["loader", "history"] d_walked.scope := ⟨rfl, rfl, rfl, by decide +kernel, rfl, by decide +kernel, by decide +kernel⟩
theorem C_walked (F : Fx hk w K mg base) {fd : FuncData} (D : FunD K d_walked.name d_walked.qual d_walked.params d_walked.body d_walked.scope (d_walked.dvs K) (d_walked.kws K) (He.ga K "walked") fd) : FnOk P w K mg base (L2.CX P w) 8 (He.ga K "walked") fd ["loader", "history"] (spP w K (G K) 2 phi_walked) :=
  fn_ok (N := N_walked) (sv := ev_walked) D S_walked (fun _ _ e => e) fun cdv A outer s H E hcd hr tk ps => (dss_cons (by first | exact spar 3 4 S_walked.nd (acons (de_lstM (acons (xcall tk (R_first_of F) (hr.mono (by decide)) (F.glo 38 rfl) (acons (xv 0) da_nil)) da_nil)) (acons (de_lstM da_nil) da_nil)) | exact sparC 3 4 S_walked.nd (acons (de_lstM (acons (xcall tk (R_first_of F) (hr.mono (by decide)) (F.glo 38 rfl) (acons (xv 0) da_nil)) da_nil)) (acons (de_lstM da_nil) da_nil)))
  (dss_cons (sfor ps (di_any (xv 1)) (gname 2 S_walked.nd) (dss_cons (ds_if (dt_not (tval (xcall tk (R_is_deed F) (hr.mono (by decide)) (F.glo 53 rfl) (acons (xv 0) (acons (xix hr (xv 3) (de_neg xint)) (acons (xv 2) da_nil)))))) (dss_cons (ds_ret (de_tup (acons (xfrz (xv 3)) (acons xnon da_nil))))
  dss_nil) dss_nil)
  (dss_cons (sasg (xcall tk (R_done F) (hr.mono (by decide)) (F.glo 45 rfl) (acons (xv 0) (acons (xix hr (xv 3) (de_neg xint)) (acons (xv 2) da_nil)))) (gtup (gcons (gname 5 S_walked.nd) (gcons (gname 6 S_walked.nd) dgs_nil))))
  (dss_cons (sexpr (xmt pa_list sl_append rfl mt_app (xv 3) (acons (xv 5) da_nil)))
  (dss_cons (sexpr (xmt pa_list sl_append rfl mt_app (xv 4) (acons (xv 6) da_nil)))
  dss_nil)))))
  (dss_cons (ds_ret (de_tup (acons (xfrz (xv 3)) (acons (xfrz (xv 4)) da_nil))))
  dss_nil)))
theorem R_walked (F : Fx hk w K mg base) : FnR P w K mg base (G K) (He.ga K "walked") ["loader", "history"] 8 [] phi_walked := by
  obtain ⟨fd, D⟩ := F.def_ (d := d_walked) 32 rfl
  exact ⟨fd, [], D.kp, .nil, (D.bindsN (fun kV doc pm an cdv ct us hl => (by rcases us with _ | ⟨_, _ | ⟨_, _ | ⟨_, us⟩⟩⟩ <;> first | (cases hl; done) | rfl))), C_walked F D⟩
abbrev N_Stale_shows : List Str := ["self", "loader", "wish", "states", "found"]
theorem S_Stale_shows : FnScope N_Stale_shows ["self", "loader", "wish"] d_Stale_shows.scope := ⟨rfl, rfl, rfl, by decide +kernel, rfl, by decide +kernel, by decide +kernel⟩
theorem R_Stale_shows (F : Fx hk w K mg base) : MtR P w K mg base (G K) "Stale" "shows" ["self", "loader", "wish"] 9 phi_Stale_shows := by
  obtain ⟨fd, D⟩ := F.def_ (d := d_Stale_shows) 33 rfl
  exact ⟨He.cls_ok (F.fact 117 rfl), _, fd, He.meth_ok (F.fact 118 rfl), (D.bindsN (fun kV doc pm an cdv ct us hl => (by rcases us with _ | ⟨_, _ | ⟨_, _ | ⟨_, _ | ⟨_, us⟩⟩⟩⟩ <;> first | (cases hl; done) | rfl))), fn_ok (N := N_Stale_shows) (sv := ev_Stale_shows) D S_Stale_shows (fun _ _ e => e) fun cdv A outer s H E hcd hr tk ps => (dss_cons (sexpr (xcall tk (R_check_wish_loading F) (hr.mono (by decide)) (F.glo 52 rfl) (acons (xv 1) (acons (xv 2) da_nil))))
  (dss_cons (sasg (xcall tk (R_walked F) (hr.mono (by decide)) (F.glo 54 rfl) (acons (xv 1) (acons (xfld (fldOk F (by decide)) (xv 0)) da_nil))) (gtup (gcons (gname 3 S_Stale_shows.nd) (gcons (gname 4 S_Stale_shows.nd) dgs_nil))))
  (dss_cons (ds_ret (de_and (xisnot (xv 4) xnon) (de_and (xne hr (xv 4) (de_lst da_nil)) (de_one (xcall tk (R_breaks F) (hr.mono (by decide)) (F.glo 49 rfl) (acons (xv 1) (acons (xix hr (xv 3) (de_neg xint)) (acons (xix hr (xfld (fldOk F (by decide)) (xv 0)) (de_neg xint)) (acons (xv 2) da_nil)))))))))
  dss_nil)))⟩
end
end MPK36
set_option Elab.async false
set_option linter.all false
set_option maxRecDepth 100000
set_option maxHeartbeats 1000000
namespace MPK36
open PySem PySem.Spec PyProof.Rows L2 MP
section
variable {w : World} {K : PySem.W.Frag} {mg : Str → Option Value} {base : Heap}
abbrev N_Stale_init : List Str := ["self", "history"]
theorem S_Stale_init : FnScope N_Stale_init ["self", "history"] d_Stale_init.scope := ⟨rfl, rfl, rfl, by decide +kernel, rfl, by decide +kernel, by decide +kernel⟩
theorem R_Stale_init (F : Fx hk w K mg base) : MkR P w K mg base (G K) "Stale" ["self", "history"] 1 phi_Stale_init := by
  obtain ⟨fd, D⟩ := F.def_ (d := d_Stale_init) 34 rfl
  exact ⟨(by decide : ("Stale" : Str) ∈ owns), _, fd, He.mkr_ok (F.fact 119 rfl), (D.bindsN (fun kV doc pm an cdv ct us hl => (by rcases us with _ | ⟨_, _ | ⟨_, _ | ⟨_, us⟩⟩⟩ <;> first | (cases hl; done) | rfl))), fnI_ok (N := N_Stale_init) (sv := ev_Stale_init) D S_Stale_init (fun _ _ e => e) fun cdv A outer s H E hr tk ps => (dss_cons (sfld (fldOk F (by decide)) (xty (bf_lstA rfl) rfl (F.free 32 rfl) (acons (xv 1) da_nil)) (xv 0))
  dss_nil)⟩
abbrev N_judge_loader : List Str := ["loader", "wish", "found", "state", "history", "deed"]
theorem S_judge_loader : FnScope N_judge_loader ["loader", "wish"] d_judge_loader.scope := ⟨rfl, rfl, rfl, by decide +kernel, rfl, by decide +kernel, by decide +kernel⟩
theorem C_judge_loader (F : Fx hk w K mg base) {fd : FuncData} (D : FunD K d_judge_loader.name d_judge_loader.qual d_judge_loader.params d_judge_loader.body d_judge_loader.scope (d_judge_loader.dvs K) (d_judge_loader.kws K) (He.ga K "judge_loader") fd) : FnOk P w K mg base (L2.CX P w) 9 (He.ga K "judge_loader") fd ["loader", "wish"] (spP w K (G K) 2 phi_judge_loader) :=
  fn_ok (N := N_judge_loader) (sv := ev_judge_loader) D S_judge_loader (fun _ _ e => e) fun cdv A outer s H E hcd hr tk ps => (dss_cons (sexpr (xcall tk (R_check_wish_loading F) (hr.mono (by decide)) (F.glo 52 rfl) (acons (xv 0) (acons (xv 1) da_nil))))
  (dss_cons (sset 2 S_judge_loader.nd (xcall tk (R_reach F) (hr.mono (by decide)) (F.glo 46 rfl) (acons (xv 0) da_nil)))
  (dss_cons (sfor ps (iitems (xv 2)) (gtup (gcons (gname 3 S_judge_loader.nd) (gcons (gname 4 S_judge_loader.nd) dgs_nil))) (dss_cons (sfor ps (di_any (xcall tk (R_deeds_in F) (hr.mono (by decide)) (F.glo 41 rfl) (acons (xv 0) (acons (xv 3) da_nil)))) (gname 5 S_judge_loader.nd) (dss_cons (ds_if (tval (xcall tk (R_breaks F) (hr.mono (by decide)) (F.glo 49 rfl) (acons (xv 0) (acons (xv 3) (acons (xv 5) (acons (xv 1) da_nil)))))) (dss_cons (ds_ret (xmake tk (R_Stale_init F) (hr.mono (by decide)) (F.glo 55 rfl) (acons (de_lst (astar (xv 4) (acons (xv 5) da_nil))) da_nil)))
  dss_nil) dss_nil)
  dss_nil))
  dss_nil))
  (dss_cons (ds_ret (xmake tk (R_Steady_init F) (hr.mono (by decide)) (F.glo 48 rfl) (acons (xty (bf_lstA rfl) rfl (F.free 32 rfl) (acons (xv 2) da_nil)) da_nil)))
  dss_nil))))
theorem R_judge_loader (F : Fx hk w K mg base) : FnR P w K mg base (G K) (He.ga K "judge_loader") ["loader", "wish"] 9 [] phi_judge_loader := by
  obtain ⟨fd, D⟩ := F.def_ (d := d_judge_loader) 35 rfl
  exact ⟨fd, [], D.kp, .nil, (D.bindsN (fun kV doc pm an cdv ct us hl => (by rcases us with _ | ⟨_, _ | ⟨_, _ | ⟨_, us⟩⟩⟩ <;> first | (cases hl; done) | rfl))), C_judge_loader F D⟩
abbrev N_soonest : List Str := ["loader", "wish", "found"]
theorem S_soonest : FnScope N_soonest ["loader", "wish"] d_soonest.scope := ⟨rfl, rfl, rfl, by decide +kernel, rfl, by decide +kernel, by decide +kernel⟩
theorem C_soonest (F : Fx hk w K mg base) {fd : FuncData} (D : FunD K d_soonest.name d_soonest.qual d_soonest.params d_soonest.body d_soonest.scope (d_soonest.dvs K) (d_soonest.kws K) (He.ga K "soonest") fd) : FnOk P w K mg base (L2.CX P w) 10 (He.ga K "soonest") fd ["loader", "wish"] (spP w K (G K) 2 phi_soonest) :=
  fn_ok (N := N_soonest) (sv := ev_soonest) D S_soonest (fun _ _ e => e) fun cdv A outer s H E hcd hr tk ps => (dss_cons (sset 2 S_soonest.nd (xcall tk (R_judge_loader F) (hr.mono (by decide)) (F.glo 56 rfl) (acons (xv 0) (acons (xv 1) da_nil))))
  (dss_cons (ds_ret (de_ite (tval (xisiO (isaO_ok (C := "Stale") (own := owns) (fun _ => rfl) (F.ex 14 rfl)) (F.free 1 rfl) (F.glo 55 rfl) (xv 2))) (xbf (lenT (k := 1) (hr.mono (by decide)) (tabL1 (R_Program_len F))) rfl (F.free 10 rfl) (acons (xfld (fldOk F (by decide)) (xv 2)) da_nil)) xnon))
  dss_nil))
theorem R_soonest (F : Fx hk w K mg base) : FnR P w K mg base (G K) (He.ga K "soonest") ["loader", "wish"] 10 [] phi_soonest := by
  obtain ⟨fd, D⟩ := F.def_ (d := d_soonest) 36 rfl
  exact ⟨fd, [], D.kp, .nil, (D.bindsN (fun kV doc pm an cdv ct us hl => (by rcases us with _ | ⟨_, _ | ⟨_, _ | ⟨_, us⟩⟩⟩ <;> first | (cases hl; done) | rfl))), C_soonest F D⟩
abbrev N_check_history : List Str := ["loader", "history", "states", "found"]
theorem S_check_history : FnScope N_check_history ["loader", "history"] d_check_history.scope := ⟨rfl, rfl, rfl, by decide +kernel, rfl, by decide +kernel, by decide +kernel⟩
theorem C_check_history (F : Fx hk w K mg base) {fd : FuncData} (D : FunD K d_check_history.name d_check_history.qual d_check_history.params d_check_history.body d_check_history.scope (d_check_history.dvs K) (d_check_history.kws K) (He.ga K "check_history") fd) : FnOk P w K mg base (L2.CX P w) 9 (He.ga K "check_history") fd ["loader", "history"] (spP w K (G K) 2 phi_check_history) :=
  fn_ok (N := N_check_history) (sv := ev_check_history) D S_check_history (fun _ _ e => e) fun cdv A outer s H E hcd hr tk ps => (dss_cons (sexpr (xcall tk (R_check_loader F) (hr.mono (by decide)) (F.glo 39 rfl) (acons (xv 0) da_nil)))
  (dss_cons (ds_if (dt_not (tval (xisi2 (isaB_ok2 (us := [.type "list", .type "tuple"]) (T := ["list", "tuple"]) (own := owns) (fun _ => rfl) (F.ex 15 rfl)) (F.free 1 rfl) (F.free 32 rfl) (F.free 11 rfl) (xv 1)))) (dss_cons (sraiseI tk (U_BadHistory F) (hr.mono (by decide)) rfl (F.glo 58 rfl) xnon)
  dss_nil) dss_nil)
  (dss_cons (sasg (xcall tk (R_walked F) (hr.mono (by decide)) (F.glo 54 rfl) (acons (xv 0) (acons (xv 1) da_nil))) (gtup (gcons (gname 2 S_check_history.nd) (gcons (gname 3 S_check_history.nd) dgs_nil))))
  (dss_cons (ds_if (tis (xv 3) xnon) (dss_cons (sraiseI tk (U_BadHistory F) (hr.mono (by decide)) rfl (F.glo 58 rfl) (xsub (xbf (lenT (k := 1) (hr.mono (by decide)) (tabL1 (R_Program_len F))) rfl (F.free 10 rfl) (acons (xv 2) da_nil)) xint))
  dss_nil) dss_nil)
  (dss_cons (ds_ret (de_tup (acons (xv 2) (acons (xv 3) da_nil))))
  dss_nil)))))
theorem R_check_history (F : Fx hk w K mg base) : FnR P w K mg base (G K) (He.ga K "check_history") ["loader", "history"] 9 [] phi_check_history := by
  obtain ⟨fd, D⟩ := F.def_ (d := d_check_history) 37 rfl
  exact ⟨fd, [], D.kp, .nil, (D.bindsN (fun kV doc pm an cdv ct us hl => (by rcases us with _ | ⟨_, _ | ⟨_, _ | ⟨_, us⟩⟩⟩ <;> first | (cases hl; done) | rfl))), C_check_history F D⟩
abbrev N_state_after : List Str := ["loader", "history"]
theorem S_state_after : FnScope N_state_after ["loader", "history"] d_state_after.scope := ⟨rfl, rfl, rfl, by decide +kernel, rfl, by decide +kernel, by decide +kernel⟩
theorem C_state_after (F : Fx hk w K mg base) {fd : FuncData} (D : FunD K d_state_after.name d_state_after.qual d_state_after.params d_state_after.body d_state_after.scope (d_state_after.dvs K) (d_state_after.kws K) (He.ga K "state_after") fd) : FnOk P w K mg base (L2.CX P w) 10 (He.ga K "state_after") fd ["loader", "history"] (spP w K (G K) 2 phi_state_after) :=
  fn_ok (N := N_state_after) (sv := ev_state_after) D S_state_after (fun _ _ e => e) fun cdv A outer s H E hcd hr tk ps => (dss_cons (ds_ret (xix hr (xix hr (xcall tk (R_check_history F) (hr.mono (by decide)) (F.glo 59 rfl) (acons (xv 0) (acons (xv 1) da_nil))) xint) (de_neg xint)))
  dss_nil)
theorem R_state_after (F : Fx hk w K mg base) : FnR P w K mg base (G K) (He.ga K "state_after") ["loader", "history"] 10 [] phi_state_after := by
  obtain ⟨fd, D⟩ := F.def_ (d := d_state_after) 38 rfl
  exact ⟨fd, [], D.kp, .nil, (D.bindsN (fun kV doc pm an cdv ct us hl => (by rcases us with _ | ⟨_, _ | ⟨_, _ | ⟨_, us⟩⟩⟩ <;> first | (cases hl; done) | rfl))), C_state_after F D⟩
abbrev N_deeds : List Str := ["loader", "history"]
theorem S_deeds : FnScope N_deeds ["loader", "history"] d_deeds.scope := ⟨rfl, rfl, rfl, by decide +kernel, rfl, by decide +kernel, by decide +kernel⟩
theorem C_deeds (F : Fx hk w K mg base) {fd : FuncData} (D : FunD K d_deeds.name d_deeds.qual d_deeds.params d_deeds.body d_deeds.scope (d_deeds.dvs K) (d_deeds.kws K) (He.ga K "deeds") fd) : FnOk P w K mg base (L2.CX P w) 11 (He.ga K "deeds") fd ["loader", "history"] (spP w K (G K) 2 phi_deeds) :=
  fn_ok (N := N_deeds) (sv := ev_deeds) D S_deeds (fun _ _ e => e) fun cdv A outer s H E hcd hr tk ps => (dss_cons (ds_ret (xcall tk (R_deeds_in F) (hr.mono (by decide)) (F.glo 41 rfl) (acons (xv 0) (acons (xcall tk (R_state_after F) (hr.mono (by decide)) (F.glo 60 rfl) (acons (xv 0) (acons (xv 1) da_nil))) da_nil))))
  dss_nil)
theorem R_deeds (F : Fx hk w K mg base) : FnR P w K mg base (G K) (He.ga K "deeds") ["loader", "history"] 11 [] phi_deeds := by
  obtain ⟨fd, D⟩ := F.def_ (d := d_deeds) 39 rfl
  exact ⟨fd, [], D.kp, .nil, (D.bindsN (fun kV doc pm an cdv ct us hl => (by rcases us with _ | ⟨_, _ | ⟨_, _ | ⟨_, us⟩⟩⟩ <;> first | (cases hl; done) | rfl))), C_deeds F D⟩
abbrev N_gives : List Str := ["loader", "history"]
theorem S_gives : FnScope N_gives ["loader", "history"] d_gives.scope := ⟨rfl, rfl, rfl, by decide +kernel, rfl, by decide +kernel, by decide +kernel⟩
theorem C_gives (F : Fx hk w K mg base) {fd : FuncData} (D : FunD K d_gives.name d_gives.qual d_gives.params d_gives.body d_gives.scope (d_gives.dvs K) (d_gives.kws K) (He.ga K "gives") fd) : FnOk P w K mg base (L2.CX P w) 10 (He.ga K "gives") fd ["loader", "history"] (spP w K (G K) 2 phi_gives) :=
  fn_ok (N := N_gives) (sv := ev_gives) D S_gives (fun _ _ e => e) fun cdv A outer s H E hcd hr tk ps => (dss_cons (ds_ret (xix hr (xcall tk (R_check_history F) (hr.mono (by decide)) (F.glo 59 rfl) (acons (xv 0) (acons (xv 1) da_nil))) xint))
  dss_nil)
theorem R_gives (F : Fx hk w K mg base) : FnR P w K mg base (G K) (He.ga K "gives") ["loader", "history"] 10 [] phi_gives := by
  obtain ⟨fd, D⟩ := F.def_ (d := d_gives) 40 rfl
  exact ⟨fd, [], D.kp, .nil, (D.bindsN (fun kV doc pm an cdv ct us hl => (by rcases us with _ | ⟨_, _ | ⟨_, _ | ⟨_, us⟩⟩⟩ <;> first | (cases hl; done) | rfl))), C_gives F D⟩
abbrev N__law_loaders : List Str := ["_law_name", "_law_a", "_law_b"]
theorem S__law_loaders : FnScope N__law_loaders ["_law_name", "_law_a", "_law_b"] d__law_loaders.scope := ⟨rfl, rfl, rfl, by decide +kernel, rfl, by decide +kernel, by decide +kernel⟩
theorem C__law_loaders (F : Fx hk w K mg base) {fd : FuncData} (D : FunD K d__law_loaders.name d__law_loaders.qual d__law_loaders.params d__law_loaders.body d__law_loaders.scope (d__law_loaders.dvs K) (d__law_loaders.kws K) (He.ga K "_law_loaders") fd) : FnOk P w K mg base (L2.CX P w) 12 (He.ga K "_law_loaders") fd ["_law_name", "_law_a", "_law_b"] (spP w K (G K) 3 phi__law_loaders) :=
  fn_ok (N := N__law_loaders) (sv := ev__law_loaders) D S__law_loaders (fun _ _ e => e) fun cdv A outer s H E hcd hr tk ps => (dss_cons (ds_if (teq hr (xv 0) xstr) (dss_cons (ds_ret (xcall tk (R_state_after F) (hr.mono (by decide)) (F.glo 60 rfl) (acons (xv 1) (acons (xv 2) da_nil))))
  dss_nil) dss_nil)
  (dss_cons (ds_if (tin hr (xv 0) (de_tup (acons xstr (acons xstr da_nil)))) (dss_cons (ds_ret (de_ite (teq hr (xv 0) xstr) (xcall tk (R_deeds F) (hr.mono (by decide)) (F.glo 61 rfl) (acons (xv 1) (acons (xv 2) da_nil))) (xcall tk (R_gives F) (hr.mono (by decide)) (F.glo 62 rfl) (acons (xv 1) (acons (xv 2) da_nil)))))
  dss_nil) dss_nil)
  (dss_cons (ds_if (tin hr (xv 0) (de_tup (acons xstr (acons xstr da_nil)))) (dss_cons (ds_ret (de_ite (teq hr (xv 0) xstr) (xcall tk (R_judge_loader F) (hr.mono (by decide)) (F.glo 56 rfl) (acons (xv 1) (acons (xv 2) da_nil))) (xcall tk (R_soonest F) (hr.mono (by decide)) (F.glo 57 rfl) (acons (xv 1) (acons (xv 2) da_nil)))))
  dss_nil) dss_nil)
  (dss_cons (ds_if (tin hr (xv 0) (de_tup (acons xstr (acons xstr da_nil)))) (dss_cons (ds_ret (de_ite (teq hr (xv 0) xstr) (xmeth (k := 9) tk (hr.mono (by decide)) (tabC (MtR.mok (R_Steady_shows F) (by decide)) (tab1 (MtR.mok (R_Stale_shows F) (by decide)))) (xmake tk (R_Steady_init F) (hr.mono (by decide)) (F.glo 48 rfl) (acons (de_lst da_nil) da_nil)) (acons (xv 1) (acons (xv 2) da_nil))) (xmeth (k := 9) tk (hr.mono (by decide)) (tabC (MtR.mok (R_Steady_shows F) (by decide)) (tab1 (MtR.mok (R_Stale_shows F) (by decide)))) (xmake tk (R_Stale_init F) (hr.mono (by decide)) (F.glo 55 rfl) (acons (de_lst da_nil) da_nil)) (acons (xv 1) (acons (xv 2) da_nil)))))
  dss_nil) dss_nil)
  (dss_cons (ds_ret (de_ite (teq hr (xv 0) xstr) (xcall tk (R_first_state F) (hr.mono (by decide)) (F.glo 40 rfl) (acons (xv 1) da_nil)) (xcall tk (R_all_states F) (hr.mono (by decide)) (F.glo 47 rfl) (acons (xv 1) da_nil))))
  dss_nil)))))
theorem R__law_loaders (F : Fx hk w K mg base) : FnR P w K mg base (G K) (He.ga K "_law_loaders") ["_law_name", "_law_a", "_law_b"] 12 [] phi__law_loaders := by
  obtain ⟨fd, D⟩ := F.def_ (d := d__law_loaders) 41 rfl
  exact ⟨fd, [], D.kp, .nil, (D.bindsN (fun kV doc pm an cdv ct us hl => (by rcases us with _ | ⟨_, _ | ⟨_, _ | ⟨_, _ | ⟨_, us⟩⟩⟩⟩ <;> first | (cases hl; done) | rfl))), C__law_loaders F D⟩
abbrev N_Program_getitem : List Str := ["self", "module", "row"]
theorem S_Program_getitem : FnScope N_Program_getitem ["self", "module"] d_Program_getitem.scope := ⟨rfl, rfl, rfl, by decide +kernel, rfl, by decide +kernel, by decide +kernel⟩
theorem R_Program_getitem (F : Fx hk w K mg base) : MtR P w K mg base (G K) "Program" "__getitem__" ["self", "module"] 2 phi_Program_getitem := by
  obtain ⟨fd, D⟩ := F.def_ (d := d_Program_getitem) 42 rfl
  exact ⟨He.cls_ok (F.fact 106 rfl), _, fd, He.meth_ok (F.fact 120 rfl), (D.bindsN (fun kV doc pm an cdv ct us hl => (by rcases us with _ | ⟨_, _ | ⟨_, _ | ⟨_, us⟩⟩⟩ <;> first | (cases hl; done) | rfl))), fn_ok (N := N_Program_getitem) (sv := ev_Program_getitem) D S_Program_getitem (fun _ _ e => e) fun cdv A outer s H E hcd hr tk ps => (dss_cons (ds_if (dt_not (tval (xcall tk (R_is_number F) (hr.mono (by decide)) (F.glo 8 rfl) (acons (xv 1) (acons xint (acons (xsub (xbf bf_len rfl (F.free 10 rfl) (acons (xix hr (xfld (fldOk F (by decide)) (xv 0)) xint) da_nil)) xint) da_nil)))))) (dss_cons (sraise tk (F.fact 17 rfl) rfl (F.glo 18 rfl) xstr)
  dss_nil) dss_nil)
  (dss_cons (ds_ret (xty (bf_tupA rfl) rfl (F.free 11 rfl) (acons (de_lc kpV_ok rfl S_Program_getitem.nd (di_any (xix hr (xix hr (xfld (fldOk F (by decide)) (xv 0)) xint) (xv 1))) (blkOk_by (own := [("row", 2)]) (by kernel_rfl)) (by decide) (fun _ _ _ _ _ => (gname 2 S_Program_getitem.nd)) (fun _ _ _ _ _ => dts_nil) (fun _ _ _ _ _ => (xix hr (xv 2) xint)) (by intro _; rfl)) da_nil)))
  dss_nil))⟩
abbrev N_can_use : List Str := ["sorts", "word", "name"]
theorem S_can_use : FnScope N_can_use ["sorts", "word", "name"] d_can_use.scope := ⟨rfl, rfl, rfl, by decide +kernel, rfl, by decide +kernel, by decide +kernel⟩
theorem C_can_use (F : Fx hk w K mg base) {fd : FuncData} (D : FunD K d_can_use.name d_can_use.qual d_can_use.params d_can_use.body d_can_use.scope (d_can_use.dvs K) (d_can_use.kws K) (He.ga K "can_use") fd) : FnOk P w K mg base (L2.CX P w) 2 (He.ga K "can_use") fd ["sorts", "word", "name"] (spP w K (G K) 3 phi_can_use) :=
  fn_ok (N := N_can_use) (sv := ev_can_use) D S_can_use (fun _ _ e => e) fun cdv A outer s H E hcd hr tk ps => (dss_cons (ds_ret (de_and (xcall tk (R_is_word F) (hr.mono (by decide)) (F.glo 3 rfl) (acons (xv 1) (acons (xty (bf_tupA rfl) rfl (F.free 11 rfl) (acons (xgd (F.glo 64 rfl) (F.dct 17 0 (x := "SORT_OF") (kvs := kv_SORT_OF) rfl rfl rfl)) da_nil)) da_nil))) (de_and (xcall tk (R_is_number F) (hr.mono (by decide)) (F.glo 8 rfl) (acons (xv 2) (acons xint (acons (xsub (xbf bf_len rfl (F.free 10 rfl) (acons (xv 0) da_nil)) xint) da_nil)))) (de_one (xin hr (xix hr (xv 0) (xv 2)) (xix hr (xgd (F.glo 64 rfl) (F.dct 17 0 (x := "SORT_OF") (kvs := kv_SORT_OF) rfl rfl rfl)) (xv 1)))))))
  dss_nil)
theorem R_can_use (F : Fx hk w K mg base) : FnR P w K mg base (G K) (He.ga K "can_use") ["sorts", "word", "name"] 2 [] phi_can_use := by
  obtain ⟨fd, D⟩ := F.def_ (d := d_can_use) 43 rfl
  exact ⟨fd, [], D.kp, .nil, (D.bindsN (fun kV doc pm an cdv ct us hl => (by rcases us with _ | ⟨_, _ | ⟨_, _ | ⟨_, _ | ⟨_, us⟩⟩⟩⟩ <;> first | (cases hl; done) | rfl))), C_can_use F D⟩
abbrev N_is_definition : List Str := ["sorts", "thing", "one"]
theorem S_is_definition : FnScope N_is_definition ["sorts", "thing"] d_is_definition.scope := ⟨rfl, rfl, rfl, by decide +kernel, rfl, by decide +kernel, by decide +kernel⟩
theorem C_is_definition (F : Fx hk w K mg base) {fd : FuncData} (D : FunD K d_is_definition.name d_is_definition.qual d_is_definition.params d_is_definition.body d_is_definition.scope (d_is_definition.dvs K) (d_is_definition.kws K) (He.ga K "is_definition") fd) : FnOk P w K mg base (L2.CX P w) 3 (He.ga K "is_definition") fd ["sorts", "thing"] (spP w K (G K) 2 phi_is_definition) :=
  fn_ok (N := N_is_definition) (sv := ev_is_definition) D S_is_definition (fun _ _ e => e) fun cdv A outer s H E hcd hr tk ps => (dss_cons (ds_if (twh (dw_or (dt_not (tval (xisiT (isaB_ok (T := ["tuple"]) (own := owns) (fun _ => rfl) (F.ex 6 rfl)) (F.free 1 rfl) (F.free 11 rfl) (xv 1) rfl))) (dw_or (tne hr (xbf bf_len rfl (F.free 10 rfl) (acons (xv 1) da_nil)) xint) (dw_or1 (dt_not (tval (xcall tk (R_is_number F) (hr.mono (by decide)) (F.glo 8 rfl) (acons (xix hr (xv 1) xint) (acons xint (acons (xsub (xbf bf_len rfl (F.free 10 rfl) (acons (xv 0) da_nil)) xint) da_nil)))))))))) (dss_cons (ds_ret xfalse)
  dss_nil) dss_nil)
  (dss_cons (ds_if (twh (dw_or (dt_not (tval (xcall tk (R_is_word F) (hr.mono (by decide)) (F.glo 3 rfl) (acons (xix hr (xv 1) xint) (acons (xg (gloK_ok (x := "SHOWS") (d := c_SHOWS) F.kin F.ns (F.ex 19 rfl))) da_nil))))) (dw_or (dt_not (tval (xisiT (isaB_ok (T := ["tuple"]) (own := owns) (fun _ => rfl) (F.ex 6 rfl)) (F.free 1 rfl) (F.free 11 rfl) (xix hr (xv 1) xint) rfl))) (dw_or1 (tgt hr (xbf bf_len rfl (F.free 10 rfl) (acons (xix hr (xv 1) xint) da_nil)) (xg (gloK_ok (x := "MOST_USES") (d := c_MOST_USES) F.kin F.ns (F.ex 18 rfl)))))))) (dss_cons (ds_ret xfalse)
  dss_nil) dss_nil)
  (dss_cons (ds_if (twh (dw_and (teq hr (xix hr (xv 0) (xix hr (xv 1) xint)) xstr) (dw_and1 (tne hr (xix hr (xv 1) xint) (de_tup da_nil))))) (dss_cons (ds_ret xfalse)
  dss_nil) dss_nil)
  (dss_cons (ds_ret (xbf (bf_all rfl) rfl (F.free 9 rfl) (acons (de_lc kpV_ok rfl S_is_definition.nd (di_any (xix hr (xv 1) xint)) (blkOk_by (own := [("one", 2)]) (by kernel_rfl)) (by decide) (fun _ _ _ _ _ => (gname 2 S_is_definition.nd)) (fun _ _ _ _ _ => dts_nil) (fun _ _ _ _ _ => (de_and (xisiT (isaB_ok (T := ["tuple"]) (own := owns) (fun _ => rfl) (F.ex 6 rfl)) (F.free 1 rfl) (F.free 11 rfl) (xv 2) rfl) (de_and (xeq hr (xbf bf_len rfl (F.free 10 rfl) (acons (xv 2) da_nil)) xint) (de_one (xcall MP.takes0 (R_can_use F) (hr.mono (by decide)) (F.glo 65 rfl) (acons (xv 0) (acons (xix hr (xv 2) xint) (acons (xix hr (xv 2) xint) da_nil)))))))) (by intro _; rfl)) da_nil)))
  dss_nil))))
theorem R_is_definition (F : Fx hk w K mg base) : FnR P w K mg base (G K) (He.ga K "is_definition") ["sorts", "thing"] 3 [] phi_is_definition := by
  obtain ⟨fd, D⟩ := F.def_ (d := d_is_definition) 44 rfl
  exact ⟨fd, [], D.kp, .nil, (D.bindsN (fun kV doc pm an cdv ct us hl => (by rcases us with _ | ⟨_, _ | ⟨_, _ | ⟨_, us⟩⟩⟩ <;> first | (cases hl; done) | rfl))), C_is_definition F D⟩
abbrev N_is_module : List Str := ["sorts", "thing", "one", "other"]
theorem S_is_module : FnScope N_is_module ["sorts", "thing"] d_is_module.scope := ⟨rfl, rfl, rfl, by decide +kernel, rfl, by decide +kernel, by decide +kernel⟩
theorem C_is_module (F : Fx hk w K mg base) {fd : FuncData} (D : FunD K d_is_module.name d_is_module.qual d_is_module.params d_is_module.body d_is_module.scope (d_is_module.dvs K) (d_is_module.kws K) (He.ga K "is_module") fd) : FnOk P w K mg base (L2.CX P w) 4 (He.ga K "is_module") fd ["sorts", "thing"] (spP w K (G K) 2 phi_is_module) :=
  fn_ok (N := N_is_module) (sv := ev_is_module) D S_is_module (fun _ _ e => e) fun cdv A outer s H E hcd hr tk ps => (dss_cons (ds_if (twh (dw_or (dt_not (tval (xisiT (isaB_ok (T := ["tuple"]) (own := owns) (fun _ => rfl) (F.ex 6 rfl)) (F.free 1 rfl) (F.free 11 rfl) (xv 1) rfl))) (dw_or1 (dt_not (tval (xbf (bf_all rfl) rfl (F.free 9 rfl) (acons (de_lc kpV_ok rfl S_is_module.nd (di_any (xv 1)) (blkOk_by (own := [("one", 2)]) (by kernel_rfl)) (by decide) (fun _ _ _ _ _ => (gname 2 S_is_module.nd)) (fun _ _ _ _ _ => dts_nil) (fun _ _ _ _ _ => (xcall MP.takes0 (R_is_definition F) (hr.mono (by decide)) (F.glo 66 rfl) (acons (xv 0) (acons (xv 2) da_nil)))) (by intro _; rfl)) da_nil))))))) (dss_cons (ds_ret xfalse)
  dss_nil) dss_nil)
  (dss_cons (ds_ret (xbf (bf_all rfl) rfl (F.free 9 rfl) (acons (de_lc kpV_ok rfl S_is_module.nd (izip (F.free 16 rfl) (acons (xv 1) (acons (de_slice (xv 1) (do_some xint) do_none) da_nil))) (blkOk_by (own := [("one", 2), ("other", 3)]) (by kernel_rfl)) (by decide) (fun _ _ _ _ _ => (gtup (gcons (gname 2 S_is_module.nd) (gcons (gname 3 S_is_module.nd) dgs_nil)))) (fun _ _ _ _ _ => dts_nil) (fun _ _ _ _ _ => (xlt hr (xix hr (xv 2) xint) (xix hr (xv 3) xint))) (by intro _; rfl)) da_nil)))
  dss_nil))
theorem R_is_module (F : Fx hk w K mg base) : FnR P w K mg base (G K) (He.ga K "is_module") ["sorts", "thing"] 4 [] phi_is_module := by
  obtain ⟨fd, D⟩ := F.def_ (d := d_is_module) 45 rfl
  exact ⟨fd, [], D.kp, .nil, (D.bindsN (fun kV doc pm an cdv ct us hl => (by rcases us with _ | ⟨_, _ | ⟨_, _ | ⟨_, us⟩⟩⟩ <;> first | (cases hl; done) | rfl))), C_is_module F D⟩
end
end MPK36
set_option Elab.async false
set_option linter.all false
set_option maxRecDepth 100000
set_option maxHeartbeats 1000000
namespace MPK36
open PySem PySem.Spec PyProof.Rows L2 MP
section
variable {w : World} {K : PySem.W.Frag} {mg : Str → Option Value} {base : Heap}
abbrev N_are_modules : List Str := ["sorts", "thing", "module"]
theorem S_are_modules : FnScope N_are_modules ["sorts", "thing"] d_are_modules.scope := ⟨rfl, rfl, rfl, by decide +kernel, rfl, by decide +kernel, by decide +kernel⟩
theorem C_are_modules (F : Fx hk w K mg base) {fd : FuncData} (D : FunD K d_are_modules.name d_are_modules.qual d_are_modules.params d_are_modules.body d_are_modules.scope (d_are_modules.dvs K) (d_are_modules.kws K) (He.ga K "are_modules") fd) : FnOk P w K mg base (L2.CX P w) 5 (He.ga K "are_modules") fd ["sorts", "thing"] (spP w K (G K) 2 phi_are_modules) :=
  fn_ok (N := N_are_modules) (sv := ev_are_modules) D S_are_modules (fun _ _ e => e) fun cdv A outer s H E hcd hr tk ps => (dss_cons (ds_if (twh (dw_or (dt_not (tval (xisiT (isaB_ok (T := ["tuple"]) (own := owns) (fun _ => rfl) (F.ex 6 rfl)) (F.free 1 rfl) (F.free 11 rfl) (xv 1) rfl))) (dw_or1 (dt_not (tlele hr xint (xbf bf_len rfl (F.free 10 rfl) (acons (xv 1) da_nil)) (xg (gloK_ok (x := "MOST_MODULES") (d := c_MOST_MODULES) F.kin F.ns (F.ex 20 rfl)))))))) (dss_cons (ds_ret xfalse)
  dss_nil) dss_nil)
  (dss_cons (ds_ret (xbf (bf_all rfl) rfl (F.free 9 rfl) (acons (de_lc kpV_ok rfl S_are_modules.nd (di_any (xv 1)) (blkOk_by (own := [("module", 2)]) (by kernel_rfl)) (by decide) (fun _ _ _ _ _ => (gname 2 S_are_modules.nd)) (fun _ _ _ _ _ => dts_nil) (fun _ _ _ _ _ => (xcall MP.takes0 (R_is_module F) (hr.mono (by decide)) (F.glo 67 rfl) (acons (xv 0) (acons (xv 2) da_nil)))) (by intro _; rfl)) da_nil)))
  dss_nil))
theorem R_are_modules (F : Fx hk w K mg base) : FnR P w K mg base (G K) (He.ga K "are_modules") ["sorts", "thing"] 5 [] phi_are_modules := by
  obtain ⟨fd, D⟩ := F.def_ (d := d_are_modules) 46 rfl
  exact ⟨fd, [], D.kp, .nil, (D.bindsN (fun kV doc pm an cdv ct us hl => (by rcases us with _ | ⟨_, _ | ⟨_, _ | ⟨_, us⟩⟩⟩ <;> first | (cases hl; done) | rfl))), C_are_modules F D⟩
abbrev N_are_sorts : List Str := ["thing", "one"]
theorem S_are_sorts : FnScope N_are_sorts ["thing"] d_are_sorts.scope := ⟨rfl, rfl, rfl, by decide +kernel, rfl, by decide +kernel, by decide +kernel⟩
theorem C_are_sorts (F : Fx hk w K mg base) {fd : FuncData} (D : FunD K d_are_sorts.name d_are_sorts.qual d_are_sorts.params d_are_sorts.body d_are_sorts.scope (d_are_sorts.dvs K) (d_are_sorts.kws K) (He.ga K "are_sorts") fd) : FnOk P w K mg base (L2.CX P w) 2 (He.ga K "are_sorts") fd ["thing"] (spP w K (G K) 1 phi_are_sorts) :=
  fn_ok (N := N_are_sorts) (sv := ev_are_sorts) D S_are_sorts (fun _ _ e => e) fun cdv A outer s H E hcd hr tk ps => (dss_cons (ds_if (twh (dw_or (dt_not (tval (xisiT (isaB_ok (T := ["tuple"]) (own := owns) (fun _ => rfl) (F.ex 6 rfl)) (F.free 1 rfl) (F.free 11 rfl) (xv 0) rfl))) (dw_or1 (dt_not (tlele hr xint (xbf bf_len rfl (F.free 10 rfl) (acons (xv 0) da_nil)) (xg (gloK_ok (x := "MOST_NAMES") (d := c_MOST_NAMES) F.kin F.ns (F.ex 22 rfl)))))))) (dss_cons (ds_ret xfalse)
  dss_nil) dss_nil)
  (dss_cons (ds_ret (xbf (bf_all rfl) rfl (F.free 9 rfl) (acons (de_lc kpV_ok rfl S_are_sorts.nd (di_any (xv 0)) (blkOk_by (own := [("one", 1)]) (by kernel_rfl)) (by decide) (fun _ _ _ _ _ => (gname 1 S_are_sorts.nd)) (fun _ _ _ _ _ => dts_nil) (fun _ _ _ _ _ => (xcall MP.takes0 (R_is_word F) (hr.mono (by decide)) (F.glo 3 rfl) (acons (xv 1) (acons (xg (gloK_ok (x := "SORTS") (d := c_SORTS) F.kin F.ns (F.ex 21 rfl))) da_nil)))) (by intro _; rfl)) da_nil)))
  dss_nil))
theorem R_are_sorts (F : Fx hk w K mg base) : FnR P w K mg base (G K) (He.ga K "are_sorts") ["thing"] 2 [] phi_are_sorts := by
  obtain ⟨fd, D⟩ := F.def_ (d := d_are_sorts) 47 rfl
  exact ⟨fd, [], D.kp, .nil, (D.bindsN (fun kV doc pm an cdv ct us hl => (by rcases us with _ | ⟨_, _ | ⟨_, us⟩⟩ <;> first | (cases hl; done) | rfl))), C_are_sorts F D⟩
abbrev N_Program_init : List Str := ["self", "sorts", "modules"]
theorem S_Program_init : FnScope N_Program_init ["self", "sorts", "modules"] d_Program_init.scope := ⟨rfl, rfl, rfl, by decide +kernel, rfl, by decide +kernel, by decide +kernel⟩
theorem R_Program_init (F : Fx hk w K mg base) : MkR P w K mg base (G K) "Program" ["self", "sorts", "modules"] 6 phi_Program_init := by
  obtain ⟨fd, D⟩ := F.def_ (d := d_Program_init) 48 rfl
  exact ⟨(by decide : ("Program" : Str) ∈ owns), _, fd, He.mkr_ok (F.fact 121 rfl), (D.bindsN (fun kV doc pm an cdv ct us hl => (by rcases us with _ | ⟨_, _ | ⟨_, _ | ⟨_, _ | ⟨_, us⟩⟩⟩⟩ <;> first | (cases hl; done) | rfl))), fnI_ok (N := N_Program_init) (sv := ev_Program_init) D S_Program_init (fun _ _ e => e) fun cdv A outer s H E hr tk ps => (dss_cons (ds_if (dt_not (tval (xcall tk (R_are_sorts F) (hr.mono (by decide)) (F.glo 69 rfl) (acons (xv 1) da_nil)))) (dss_cons (sraiseI tk (U_BadProgram F) (hr.mono (by decide)) rfl (F.glo 26 rfl) xstr)
  dss_nil) dss_nil)
  (dss_cons (ds_if (dt_not (tval (xcall tk (R_are_modules F) (hr.mono (by decide)) (F.glo 68 rfl) (acons (xv 1) (acons (xv 2) da_nil))))) (dss_cons (sraiseI tk (U_BadProgram F) (hr.mono (by decide)) rfl (F.glo 26 rfl) xstr)
  dss_nil) dss_nil)
  (dss_cons (sfld (fldOk F (by decide)) (de_tup (acons (xv 1) (acons (xv 2) da_nil))) (xv 0))
  dss_nil)))⟩
abbrev N_Program_with_show : List Str := ["self", "module", "name", "show", "rows", "modules", "row", "at", "one"]
theorem S_Program_with_show : FnScope N_Program_with_show ["self", "module", "name", "show"] d_Program_with_show.scope := ⟨rfl, rfl, rfl, by decide +kernel, rfl, by decide +kernel, by decide +kernel⟩
theorem R_Program_with_show (F : Fx hk w K mg base) : MtR P w K mg base (G K) "Program" "with_show" ["self", "module", "name", "show"] 8 phi_Program_with_show := by
  obtain ⟨fd, D⟩ := F.def_ (d := d_Program_with_show) 49 rfl
  exact ⟨He.cls_ok (F.fact 106 rfl), _, fd, He.meth_ok (F.fact 122 rfl), (D.bindsN (fun kV doc pm an cdv ct us hl => (by rcases us with _ | ⟨_, _ | ⟨_, _ | ⟨_, _ | ⟨_, _ | ⟨_, us⟩⟩⟩⟩⟩ <;> first | (cases hl; done) | rfl))), fn_ok (N := N_Program_with_show) (sv := ev_Program_with_show) D S_Program_with_show (fun _ _ e => e) fun cdv A outer s H E hcd hr tk ps => (dss_cons (ds_if (tis (xmeth (k := 2) tk (hr.mono (by decide)) (tab1 (MtR.mok (R_Program_show_of F) (by decide))) (xv 0) (acons (xv 1) (acons (xv 2) da_nil))) xnon) (dss_cons (sraise tk (F.fact 17 rfl) rfl (F.glo 18 rfl) xstr)
  dss_nil) dss_nil)
  (dss_cons (by first | exact sset 4 S_Program_with_show.nd (de_lc kpV_ok rfl S_Program_with_show.nd (di_any (xix hr (xix hr (xfld (fldOk F (by decide)) (xv 0)) xint) (xv 1))) (blkOk_by (own := [("row", 6)]) (by kernel_rfl)) (by decide) (fun _ _ _ _ _ => (gname 6 S_Program_with_show.nd)) (fun _ _ _ _ _ => dts_nil) (fun _ _ _ _ _ => (de_ite (teq hr (xix hr (xv 6) xint) (xv 2)) (de_tup (acons (xix hr (xv 6) xint) (acons (xv 3) (acons (xix hr (xv 6) xint) da_nil)))) (xv 6))) (by intro _; rfl)) | exact ds_setLc kpV_ok rfl S_Program_with_show.nd rfl rfl rfl (di_any (xix hr (xix hr (xfld (fldOk F (by decide)) (xv 0)) xint) (xv 1))) (blkOk_by (own := [("row", 6)]) (by kernel_rfl)) (by decide) (fun _ _ _ _ _ => (gname 6 S_Program_with_show.nd)) (fun _ _ _ _ _ => dts_nil) (fun _ _ _ _ _ => (de_ite (teq hr (xix hr (xv 6) xint) (xv 2)) (de_tup (acons (xix hr (xv 6) xint) (acons (xv 3) (acons (xix hr (xv 6) xint) da_nil)))) (xv 6))) (by intro _; rfl))
  (dss_cons (by first | exact sset 5 S_Program_with_show.nd (de_lc kpV_ok rfl S_Program_with_show.nd (ienum (F.free 35 rfl) (acons (xix hr (xfld (fldOk F (by decide)) (xv 0)) xint) da_nil)) (blkOk_by (own := [("at", 7), ("one", 8)]) (by kernel_rfl)) (by decide) (fun _ _ _ _ _ => (gtup (gcons (gname 7 S_Program_with_show.nd) (gcons (gname 8 S_Program_with_show.nd) dgs_nil)))) (fun _ _ _ _ _ => dts_nil) (fun _ _ _ _ _ => (de_ite (teq hr (xv 7) (xv 1)) (xty (bf_tupA rfl) rfl (F.free 11 rfl) (acons (xv 4) da_nil)) (xv 8))) (by intro _; rfl)) | exact ds_setLc kpV_ok rfl S_Program_with_show.nd rfl rfl rfl (ienum (F.free 35 rfl) (acons (xix hr (xfld (fldOk F (by decide)) (xv 0)) xint) da_nil)) (blkOk_by (own := [("at", 7), ("one", 8)]) (by kernel_rfl)) (by decide) (fun _ _ _ _ _ => (gtup (gcons (gname 7 S_Program_with_show.nd) (gcons (gname 8 S_Program_with_show.nd) dgs_nil)))) (fun _ _ _ _ _ => dts_nil) (fun _ _ _ _ _ => (de_ite (teq hr (xv 7) (xv 1)) (xty (bf_tupA rfl) rfl (F.free 11 rfl) (acons (xv 4) da_nil)) (xv 8))) (by intro _; rfl))
  (dss_cons (ds_ret (xmake tk (R_Program_init F) (hr.mono (by decide)) (F.glo 25 rfl) (acons (xix hr (xfld (fldOk F (by decide)) (xv 0)) xint) (acons (xty (bf_tupA rfl) rfl (F.free 11 rfl) (acons (xv 5) da_nil)) da_nil))))
  dss_nil))))⟩
abbrev N_Holds_init : List Str := ["self", "alive"]
theorem S_Holds_init : FnScope N_Holds_init ["self", "alive"] d_Holds_init.scope := ⟨rfl, rfl, rfl, by decide +kernel, rfl, by decide +kernel, by decide +kernel⟩
theorem R_Holds_init (F : Fx hk w K mg base) : MkR P w K mg base (G K) "Holds" ["self", "alive"] 1 phi_Holds_init := by
  obtain ⟨fd, D⟩ := F.def_ (d := d_Holds_init) 50 rfl
  exact ⟨(by decide : ("Holds" : Str) ∈ owns), _, fd, He.mkr_ok (F.fact 123 rfl), (D.bindsN (fun kV doc pm an cdv ct us hl => (by rcases us with _ | ⟨_, _ | ⟨_, _ | ⟨_, us⟩⟩⟩ <;> first | (cases hl; done) | rfl))), fnI_ok (N := N_Holds_init) (sv := ev_Holds_init) D S_Holds_init (fun _ _ e => e) fun cdv A outer s H E hr tk ps => (dss_cons (sfld (fldOk F (by decide)) (xfrz (xty (bf_dctA hr.units rfl) rfl (F.free 34 rfl) (acons (xv 1) da_nil))) (xv 0))
  dss_nil)⟩
abbrev N_open_place : List Str := ["program", "choice", "lot", "use", "place"]
theorem S_open_place : FnScope N_open_place ["program", "choice", "lot", "use"] d_open_place.scope := ⟨rfl, rfl, rfl, by decide +kernel, rfl, by decide +kernel, by decide +kernel⟩
theorem C_open_place (F : Fx hk w K mg base) {fd : FuncData} (D : FunD K d_open_place.name d_open_place.qual d_open_place.params d_open_place.body d_open_place.scope (d_open_place.dvs K) (d_open_place.kws K) (He.ga K "open_place") fd) : FnOk P w K mg base (L2.CX P w) 4 (He.ga K "open_place") fd ["program", "choice", "lot", "use"] (spP w K (G K) 4 phi_open_place) :=
  fn_ok (N := N_open_place) (sv := ev_open_place) D S_open_place (fun _ _ e => e) fun cdv A outer s H E hcd hr tk ps => (dss_cons (sset 4 S_open_place.nd (xcallN tk (RN_met F) (hr.mono (by decide)) (F.glo 33 rfl) (acons (xv 0) (acons (xv 1) (acons (xv 2) (acons (xv 3) da_nil))))))
  (dss_cons (ds_if (twh (dw_or (tis (xv 4) xnon) (dw_or1 (teq hr (xv 4) (xg (gloK_ok (x := "AHEAD") (d := c_AHEAD) F.kin F.ns (F.ex 8 rfl))))))) (dss_cons (ds_ret (xv 4))
  dss_nil) dss_nil)
  (dss_cons (ds_ret (de_ite (teq hr (xmeth (k := 2) tk (hr.mono (by decide)) (tab1 (MtR.mok (R_Program_show_of F) (by decide))) (xv 0) (acons (xv 4) (acons (xix hr (xv 3) xint) da_nil))) xstr) xnon (xv 4)))
  dss_nil)))
theorem R_open_place (F : Fx hk w K mg base) : FnR P w K mg base (G K) (He.ga K "open_place") ["program", "choice", "lot", "use"] 4 [] phi_open_place := by
  obtain ⟨fd, D⟩ := F.def_ (d := d_open_place) 51 rfl
  exact ⟨fd, [], D.kp, .nil, (D.bindsN (fun kV doc pm an cdv ct us hl => (by rcases us with _ | ⟨_, _ | ⟨_, _ | ⟨_, _ | ⟨_, _ | ⟨_, us⟩⟩⟩⟩⟩ <;> first | (cases hl; done) | rfl))), C_open_place F D⟩
abbrev N_copied_from : List Str := ["program", "name", "modules", "shown", "at"]
theorem S_copied_from : FnScope N_copied_from ["program", "name"] d_copied_from.scope := ⟨rfl, rfl, rfl, by decide +kernel, rfl, by decide +kernel, by decide +kernel⟩
theorem C_copied_from (F : Fx hk w K mg base) {fd : FuncData} (D : FunD K d_copied_from.name d_copied_from.qual d_copied_from.params d_copied_from.body d_copied_from.scope (d_copied_from.dvs K) (d_copied_from.kws K) (He.ga K "copied_from") fd) : FnOk P w K mg base (L2.CX P w) 3 (He.ga K "copied_from") fd ["program", "name"] (spP w K (G K) 2 phi_copied_from) :=
  fn_ok (N := N_copied_from) (sv := ev_copied_from) D S_copied_from (fun _ _ e => e) fun cdv A outer s H E hcd hr tk ps => (dss_cons (sset 2 S_copied_from.nd (xlrg1 (F.free 32 rfl) (F.free 20 rfl) (xbf (lenT (k := 1) (hr.mono (by decide)) (tabL1 (R_Program_len F))) rfl (F.free 10 rfl) (acons (xprop (R_Program_modules F) (hr.mono (by decide)) (xv 0)) da_nil))))
  (dss_cons (by first | exact sset 3 S_copied_from.nd (de_lc kpV_ok rfl S_copied_from.nd (di_any (xv 2)) (blkOk_by (own := [("at", 4)]) (by kernel_rfl)) (by decide) (fun _ _ _ _ _ => (gname 4 S_copied_from.nd)) (fun _ _ _ _ _ => (dts_one (tin hr (xmeth (k := 2) MP.takes0 (hr.mono (by decide)) (tab1 (MtR.mok (R_Program_show_of F) (by decide))) (xv 0) (acons (xv 4) (acons (xv 1) da_nil))) (de_tup (acons xstr (acons xstr da_nil)))))) (fun _ _ _ _ _ => (xv 4)) (by intro _; rfl)) | exact ds_setLc kpV_ok rfl S_copied_from.nd rfl rfl rfl (di_any (xv 2)) (blkOk_by (own := [("at", 4)]) (by kernel_rfl)) (by decide) (fun _ _ _ _ _ => (gname 4 S_copied_from.nd)) (fun _ _ _ _ _ => (dts_one (tin hr (xmeth (k := 2) MP.takes0 (hr.mono (by decide)) (tab1 (MtR.mok (R_Program_show_of F) (by decide))) (xv 0) (acons (xv 4) (acons (xv 1) da_nil))) (de_tup (acons xstr (acons xstr da_nil)))))) (fun _ _ _ _ _ => (xv 4)) (by intro _; rfl))
  (dss_cons (ds_ret (xix hr (de_lst (astar (xv 3) (astar (de_lc kpV_ok rfl S_copied_from.nd (di_any (xv 2)) (blkOk_by (own := [("at", 4)]) (by kernel_rfl)) (by decide) (fun _ _ _ _ _ => (gname 4 S_copied_from.nd)) (fun _ _ _ _ _ => (dts_one (teq hr (xmeth (k := 2) MP.takes0 (hr.mono (by decide)) (tab1 (MtR.mok (R_Program_show_of F) (by decide))) (xv 0) (acons (xv 4) (acons (xv 1) da_nil))) xstr))) (fun _ _ _ _ _ => (xv 4)) (by intro _; rfl)) da_nil))) xint))
  dss_nil)))
theorem R_copied_from (F : Fx hk w K mg base) : FnR P w K mg base (G K) (He.ga K "copied_from") ["program", "name"] 3 [] phi_copied_from := by
  obtain ⟨fd, D⟩ := F.def_ (d := d_copied_from) 52 rfl
  exact ⟨fd, [], D.kp, .nil, (D.bindsN (fun kV doc pm an cdv ct us hl => (by rcases us with _ | ⟨_, _ | ⟨_, _ | ⟨_, us⟩⟩⟩ <;> first | (cases hl; done) | rfl))), C_copied_from F D⟩
abbrev N_source : List Str := ["program", "choice", "use", "place", "is_copy"]
theorem S_source : FnScope N_source ["program", "choice", "use", "place"] d_source.scope := ⟨rfl, rfl, rfl, by decide +kernel, rfl, by decide +kernel, by decide +kernel⟩
theorem C_source (F : Fx hk w K mg base) {fd : FuncData} (D : FunD K d_source.name d_source.qual d_source.params d_source.body d_source.scope (d_source.dvs K) (d_source.kws K) (He.ga K "source") fd) : FnOk P w K mg base (L2.CX P w) 4 (He.ga K "source") fd ["program", "choice", "use", "place"] (spP w K (G K) 4 phi_source) :=
  fn_ok (N := N_source) (sv := ev_source) D S_source (fun _ _ e => e) fun cdv A outer s H E hcd hr tk ps => (dss_cons (sset 4 S_source.nd (de_and (xeq hr (xv 3) xint) (de_one (xin hr (de_tup (acons xstr (acons xint (acons (xix hr (xv 2) xint) da_nil)))) (xv 1)))))
  (dss_cons (ds_ret (de_ite (tval (xv 4)) (xcall tk (R_copied_from F) (hr.mono (by decide)) (F.glo 73 rfl) (acons (xv 0) (acons (xix hr (xv 2) xint) da_nil))) (xv 3)))
  dss_nil))
theorem R_source (F : Fx hk w K mg base) : FnR P w K mg base (G K) (He.ga K "source") ["program", "choice", "use", "place"] 4 [] phi_source := by
  obtain ⟨fd, D⟩ := F.def_ (d := d_source) 53 rfl
  exact ⟨fd, [], D.kp, .nil, (D.bindsN (fun kV doc pm an cdv ct us hl => (by rcases us with _ | ⟨_, _ | ⟨_, _ | ⟨_, _ | ⟨_, _ | ⟨_, us⟩⟩⟩⟩⟩ <;> first | (cases hl; done) | rfl))), C_source F D⟩
abbrev N_is_bad : List Str := ["program", "choice", "lot", "wish", "use", "place"]
theorem S_is_bad : FnScope N_is_bad ["program", "choice", "lot", "wish", "use"] d_is_bad.scope := ⟨rfl, rfl, rfl, by decide +kernel, rfl, by decide +kernel, by decide +kernel⟩
theorem C_is_bad (F : Fx hk w K mg base) {fd : FuncData} (D : FunD K d_is_bad.name d_is_bad.qual d_is_bad.params d_is_bad.body d_is_bad.scope (d_is_bad.dvs K) (d_is_bad.kws K) (He.ga K "is_bad") fd) : FnOk P w K mg base (L2.CX P w) 5 (He.ga K "is_bad") fd ["program", "choice", "lot", "wish", "use"] (spP w K (G K) 5 phi_is_bad) :=
  fn_ok (N := N_is_bad) (sv := ev_is_bad) D S_is_bad (fun _ _ e => e) fun cdv A outer s H E hcd hr tk ps => (dss_cons (sset 5 S_is_bad.nd (xcallN tk (RN_met F) (hr.mono (by decide)) (F.glo 33 rfl) (acons (xv 0) (acons (xv 1) (acons (xv 2) (acons (xv 4) da_nil))))))
  (dss_cons (ds_if (teq hr (xv 3) xstr) (dss_cons (ds_ret (de_and (xisnot (xix hr (xv 4) xint) xnon) (de_one (xis (xv 5) xnon))))
  dss_nil) dss_nil)
  (dss_cons (ds_ret (xne hr (xcall tk (R_source F) (hr.mono (by decide)) (F.glo 74 rfl) (acons (xv 0) (acons (xv 1) (acons (xv 4) (acons (xv 5) da_nil))))) (xcallN tk (RN_met F) (hr.mono (by decide)) (F.glo 33 rfl) (acons (xv 0) (acons (de_tup da_nil) (acons (xv 2) (acons (xv 4) da_nil)))))))
  dss_nil)))
theorem R_is_bad (F : Fx hk w K mg base) : FnR P w K mg base (G K) (He.ga K "is_bad") ["program", "choice", "lot", "wish", "use"] 5 [] phi_is_bad := by
  obtain ⟨fd, D⟩ := F.def_ (d := d_is_bad) 54 rfl
  exact ⟨fd, [], D.kp, .nil, (D.bindsN (fun kV doc pm an cdv ct us hl => (by rcases us with _ | ⟨_, _ | ⟨_, _ | ⟨_, _ | ⟨_, _ | ⟨_, _ | ⟨_, us⟩⟩⟩⟩⟩⟩ <;> first | (cases hl; done) | rfl))), C_is_bad F D⟩
abbrev N_are_bad : List Str := ["program", "choice", "lot", "wish", "uses", "places", "use"]
theorem S_are_bad : FnScope N_are_bad ["program", "choice", "lot", "wish", "uses"] d_are_bad.scope := ⟨rfl, rfl, rfl, by decide +kernel, rfl, by decide +kernel, by decide +kernel⟩
theorem C_are_bad (F : Fx hk w K mg base) {fd : FuncData} (D : FunD K d_are_bad.name d_are_bad.qual d_are_bad.params d_are_bad.body d_are_bad.scope (d_are_bad.dvs K) (d_are_bad.kws K) (He.ga K "are_bad") fd) : FnOk P w K mg base (L2.CX P w) 6 (He.ga K "are_bad") fd ["program", "choice", "lot", "wish", "uses"] (spP w K (G K) 5 phi_are_bad) :=
  fn_ok (N := N_are_bad) (sv := ev_are_bad) D S_are_bad (fun _ _ e => e) fun cdv A outer s H E hcd hr tk ps => (dss_cons (ds_if (tin hr (xv 3) (de_tup (acons xstr (acons xstr da_nil)))) (dss_cons (ds_ret (de_and (xeq hr (xbf (lenT (k := 1) (hr.mono (by decide)) (tabL1 (R_Program_len F))) rfl (F.free 10 rfl) (acons (xv 4) da_nil)) xint) (de_one (xcall tk (R_is_bad F) (hr.mono (by decide)) (F.glo 75 rfl) (acons (xv 0) (acons (xv 1) (acons (xv 2) (acons (xv 3) (acons (xix hr (xv 4) xint) da_nil)))))))))
  dss_nil) dss_nil)
  (dss_cons (ds_if (twh (dw_or (tne hr (xbf (lenT (k := 1) (hr.mono (by decide)) (tabL1 (R_Program_len F))) rfl (F.free 10 rfl) (acons (xv 4) da_nil)) xint) (dw_or (tne hr (xix hr (xix hr (xv 4) xint) xint) (xix hr (xix hr (xv 4) xint) xint)) (dw_or1 (dt_not (tval (xbf (bf_all rfl) rfl (F.free 9 rfl) (acons (de_lc kpV_ok rfl S_are_bad.nd (di_any (xv 4)) (blkOk_by (own := [("use", 6)]) (by kernel_rfl)) (by decide) (fun _ _ _ _ _ => (gname 6 S_are_bad.nd)) (fun _ _ _ _ _ => dts_nil) (fun _ _ _ _ _ => (xeq hr (xix hr (xv 6) xint) (xix hr (xgd (F.glo 72 rfl) (F.dct 23 1 (x := "WORDS") (kvs := kv_WORDS) rfl rfl rfl)) (xv 3)))) (by intro _; rfl)) da_nil)))))))) (dss_cons (ds_ret xfalse)
  dss_nil) dss_nil)
  (dss_cons (by first | exact sset 5 S_are_bad.nd (de_lc kpV_ok rfl S_are_bad.nd (di_any (xv 4)) (blkOk_by (own := [("use", 6)]) (by kernel_rfl)) (by decide) (fun _ _ _ _ _ => (gname 6 S_are_bad.nd)) (fun _ _ _ _ _ => dts_nil) (fun _ _ _ _ _ => (xcall MP.takes0 (R_open_place F) (hr.mono (by decide)) (F.glo 71 rfl) (acons (xv 0) (acons (xv 1) (acons (xv 2) (acons (xv 6) da_nil)))))) (by intro _; rfl)) | exact ds_setLc kpV_ok rfl S_are_bad.nd rfl rfl rfl (di_any (xv 4)) (blkOk_by (own := [("use", 6)]) (by kernel_rfl)) (by decide) (fun _ _ _ _ _ => (gname 6 S_are_bad.nd)) (fun _ _ _ _ _ => dts_nil) (fun _ _ _ _ _ => (xcall MP.takes0 (R_open_place F) (hr.mono (by decide)) (F.glo 71 rfl) (acons (xv 0) (acons (xv 1) (acons (xv 2) (acons (xv 6) da_nil)))))) (by intro _; rfl))
  (dss_cons (ds_ret (de_and (xnotin hr xnon (xv 5)) (de_one (xne hr (xix hr (xv 5) xint) (xix hr (xv 5) xint)))))
  dss_nil))))
theorem R_are_bad (F : Fx hk w K mg base) : FnR P w K mg base (G K) (He.ga K "are_bad") ["program", "choice", "lot", "wish", "uses"] 6 [] phi_are_bad := by
  obtain ⟨fd, D⟩ := F.def_ (d := d_are_bad) 55 rfl
  exact ⟨fd, [], D.kp, .nil, (D.bindsN (fun kV doc pm an cdv ct us hl => (by rcases us with _ | ⟨_, _ | ⟨_, _ | ⟨_, _ | ⟨_, _ | ⟨_, _ | ⟨_, us⟩⟩⟩⟩⟩⟩ <;> first | (cases hl; done) | rfl))), C_are_bad F D⟩
abbrev N_uses_in : List Str := ["program", "body", "word", "name"]
theorem S_uses_in : FnScope N_uses_in ["program", "body"] d_uses_in.scope := ⟨rfl, rfl, rfl, by decide +kernel, rfl, by decide +kernel, by decide +kernel⟩
theorem C_uses_in (F : Fx hk w K mg base) {fd : FuncData} (D : FunD K d_uses_in.name d_uses_in.qual d_uses_in.params d_uses_in.body d_uses_in.scope (d_uses_in.dvs K) (d_uses_in.kws K) (He.ga K "uses_in") fd) : FnOk P w K mg base (L2.CX P w) 2 (He.ga K "uses_in") fd ["program", "body"] (spP w K (G K) 2 phi_uses_in) :=
  fn_ok (N := N_uses_in) (sv := ev_uses_in) D S_uses_in (fun _ _ e => e) fun cdv A outer s H E hcd hr tk ps => (dss_cons (ds_ret (de_lc kpV_ok rfl S_uses_in.nd (di_any (xix hr (xmeth (k := 1) tk (hr.mono (by decide)) (tab1 (MtR.mok (R_Program_found F) (by decide))) (xv 0) (acons (xix hr (xv 1) xint) (acons (xix hr (xv 1) xint) da_nil))) xint)) (blkOk_by (own := [("word", 2), ("name", 3)]) (by kernel_rfl)) (by decide) (fun _ _ _ _ _ => (gtup (gcons (gname 2 S_uses_in.nd) (gcons (gname 3 S_uses_in.nd) dgs_nil)))) (fun _ _ _ _ _ => dts_nil) (fun _ _ _ _ _ => (de_tup (acons (xix hr (xv 1) xint) (acons (xv 2) (acons (xv 3) da_nil))))) (by intro _; rfl)))
  dss_nil)
theorem R_uses_in (F : Fx hk w K mg base) : FnR P w K mg base (G K) (He.ga K "uses_in") ["program", "body"] 2 [] phi_uses_in := by
  obtain ⟨fd, D⟩ := F.def_ (d := d_uses_in) 56 rfl
  exact ⟨fd, [], D.kp, .nil, (D.bindsN (fun kV doc pm an cdv ct us hl => (by rcases us with _ | ⟨_, _ | ⟨_, _ | ⟨_, us⟩⟩⟩ <;> first | (cases hl; done) | rfl))), C_uses_in F D⟩
abbrev N_outer_uses : List Str := ["program", "found", "name", "sort"]
theorem S_outer_uses : FnScope N_outer_uses ["program"] d_outer_uses.scope := ⟨rfl, rfl, rfl, by decide +kernel, rfl, by decide +kernel, by decide +kernel⟩
theorem C_outer_uses (F : Fx hk w K mg base) {fd : FuncData} (D : FunD K d_outer_uses.name d_outer_uses.qual d_outer_uses.params d_outer_uses.body d_outer_uses.scope (d_outer_uses.dvs K) (d_outer_uses.kws K) (He.ga K "outer_uses") fd) : FnOk P w K mg base (L2.CX P w) 3 (He.ga K "outer_uses") fd ["program"] (spP w K (G K) 1 phi_outer_uses) :=
  fn_ok (N := N_outer_uses) (sv := ev_outer_uses) D S_outer_uses (fun _ _ e => e) fun cdv A outer s H E hcd hr tk ps => (dss_cons (sset 1 S_outer_uses.nd (de_lstM da_nil))
  (dss_cons (sfor ps (ienum (F.free 35 rfl) (acons (xprop (R_Program_sorts F) (hr.mono (by decide)) (xv 0)) da_nil)) (gtup (gcons (gname 2 S_outer_uses.nd) (gcons (gname 3 S_outer_uses.nd) dgs_nil))) (dss_cons (sexpr (xmt pa_list sl_extend rfl mt_ext (xv 1) (acons (de_lst (acons (de_tup (acons xnon (acons (de_ite (teq hr (xv 3) xstr) xstr xstr) (acons (xv 2) da_nil)))) (acons (de_tup (acons xnon (acons xstr (acons (xv 2) da_nil)))) da_nil))) da_nil)))
  dss_nil))
  (dss_cons (ds_ret (xv 1))
  dss_nil)))
theorem R_outer_uses (F : Fx hk w K mg base) : FnR P w K mg base (G K) (He.ga K "outer_uses") ["program"] 3 [] phi_outer_uses := by
  obtain ⟨fd, D⟩ := F.def_ (d := d_outer_uses) 57 rfl
  exact ⟨fd, [], D.kp, .nil, (D.bindsN (fun kV doc pm an cdv ct us hl => (by rcases us with _ | ⟨_, _ | ⟨_, us⟩⟩ <;> first | (cases hl; done) | rfl))), C_outer_uses F D⟩
end
end MPK36
set_option Elab.async false
set_option linter.all false
set_option maxRecDepth 100000
set_option maxHeartbeats 1000000
namespace MPK36
open PySem PySem.Spec PyProof.Rows L2 MP
section
variable {w : World} {K : PySem.W.Frag} {mg : Str → Option Value} {base : Heap}
abbrev N_uses_of : List Str := ["program", "bodies", "found", "body", "use"]
theorem S_uses_of : FnScope N_uses_of ["program", "bodies"] d_uses_of.scope := ⟨rfl, rfl, rfl, by decide +kernel, rfl, by decide +kernel, by decide +kernel⟩
theorem C_uses_of (F : Fx hk w K mg base) {fd : FuncData} (D : FunD K d_uses_of.name d_uses_of.qual d_uses_of.params d_uses_of.body d_uses_of.scope (d_uses_of.dvs K) (d_uses_of.kws K) (He.ga K "uses_of") fd) : FnOk P w K mg base (L2.CX P w) 4 (He.ga K "uses_of") fd ["program", "bodies"] (spP w K (G K) 2 phi_uses_of) :=
  fn_ok (N := N_uses_of) (sv := ev_uses_of) D S_uses_of (fun _ _ e => e) fun cdv A outer s H E hcd hr tk ps => (dss_cons (by first | exact sset 2 S_uses_of.nd (xdc hr S_uses_of.nd (di_any (xcall tk (R_outer_uses F) (hr.mono (by decide)) (F.glo 78 rfl) (acons (xv 0) da_nil))) (blkOk_by (own := [("use", 4)]) (by kernel_rfl)) (fun _ _ _ _ _ => (gname 4 S_uses_of.nd)) (fun _ _ _ _ _ => dts_nil) (fun _ _ _ _ _ => (xv 4)) (fun _ _ _ _ _ => xtrue)) | exact ssetDc (i := 2) hr S_uses_of.nd (di_any (xcall tk (R_outer_uses F) (hr.mono (by decide)) (F.glo 78 rfl) (acons (xv 0) da_nil))) (blkOk_by (own := [("use", 4)]) (by kernel_rfl)) (fun _ _ _ _ _ => (gname 4 S_uses_of.nd)) (fun _ _ _ _ _ => dts_nil) (fun _ _ _ _ _ => (xv 4)) (fun _ _ _ _ _ => xtrue))
  (dss_cons (sfor ps (di_any (xv 1)) (gname 3 S_uses_of.nd) (dss_cons (sfor ps (di_any (xcall tk (R_uses_in F) (hr.mono (by decide)) (F.glo 77 rfl) (acons (xv 0) (acons (xv 3) da_nil)))) (gname 4 S_uses_of.nd) (dss_cons (sput hr xtrue (xv 2) (xv 4))
  dss_nil))
  dss_nil))
  (dss_cons (ds_ret (xty (bf_lstA rfl) rfl (F.free 32 rfl) (acons (xv 2) da_nil)))
  dss_nil)))
theorem R_uses_of (F : Fx hk w K mg base) : FnR P w K mg base (G K) (He.ga K "uses_of") ["program", "bodies"] 4 [] phi_uses_of := by
  obtain ⟨fd, D⟩ := F.def_ (d := d_uses_of) 58 rfl
  exact ⟨fd, [], D.kp, .nil, (D.bindsN (fun kV doc pm an cdv ct us hl => (by rcases us with _ | ⟨_, _ | ⟨_, _ | ⟨_, us⟩⟩⟩ <;> first | (cases hl; done) | rfl))), C_uses_of F D⟩
abbrev N_breaking : List Str := ["program", "choice", "lot", "wish", "bodies", "uses", "firsts", "use", "some", "first"]
theorem S_breaking : FnScope N_breaking ["program", "choice", "lot", "wish", "bodies"] d_breaking.scope := ⟨rfl, rfl, rfl, by decide +kernel, rfl, by decide +kernel, by decide +kernel⟩
theorem C_breaking (F : Fx hk w K mg base) {fd : FuncData} (D : FunD K d_breaking.name d_breaking.qual d_breaking.params d_breaking.body d_breaking.scope (d_breaking.dvs K) (d_breaking.kws K) (He.ga K "breaking") fd) : FnOk P w K mg base (L2.CX P w) 7 (He.ga K "breaking") fd ["program", "choice", "lot", "wish", "bodies"] (spP w K (G K) 5 phi_breaking) :=
  fn_ok (N := N_breaking) (sv := ev_breaking) D S_breaking (fun _ _ e => e) fun cdv A outer s H E hcd hr tk ps => (dss_cons (sset 5 S_breaking.nd (xcall tk (R_uses_of F) (hr.mono (by decide)) (F.glo 79 rfl) (acons (xv 0) (acons (xv 4) da_nil))))
  (dss_cons (ds_if (tin hr (xv 3) (de_tup (acons xstr (acons xstr da_nil)))) (dss_cons (by first | exact sset 8 S_breaking.nd (de_lc kpV_ok rfl S_breaking.nd (di_any (xv 5)) (blkOk_by (own := [("use", 7)]) (by kernel_rfl)) (by decide) (fun _ _ _ _ _ => (gname 7 S_breaking.nd)) (fun _ _ _ _ _ => (dts_one (tval (xcall MP.takes0 (R_is_bad F) (hr.mono (by decide)) (F.glo 75 rfl) (acons (xv 0) (acons (xv 1) (acons (xv 2) (acons (xv 3) (acons (xv 7) da_nil))))))))) (fun _ _ _ _ _ => (xv 7)) (by intro _; rfl)) | exact ds_setLc kpV_ok rfl S_breaking.nd rfl rfl rfl (di_any (xv 5)) (blkOk_by (own := [("use", 7)]) (by kernel_rfl)) (by decide) (fun _ _ _ _ _ => (gname 7 S_breaking.nd)) (fun _ _ _ _ _ => (dts_one (tval (xcall MP.takes0 (R_is_bad F) (hr.mono (by decide)) (F.glo 75 rfl) (acons (xv 0) (acons (xv 1) (acons (xv 2) (acons (xv 3) (acons (xv 7) da_nil))))))))) (fun _ _ _ _ _ => (xv 7)) (by intro _; rfl))
  (dss_cons (ds_ret (de_ite (tne hr (xv 8) (de_lst da_nil)) (de_slice (xv 8) do_none (do_some xint)) xnon))
  dss_nil)) dss_nil)
  (dss_cons (sset 6 S_breaking.nd de_dct0)
  (dss_cons (sfor ps (di_any (xv 5)) (gname 7 S_breaking.nd) (dss_cons (ds_if (twh (dw_and (teq hr (xix hr (xv 7) xint) (xix hr (xgd (F.glo 72 rfl) (F.dct 23 1 (x := "WORDS") (kvs := kv_WORDS) rfl rfl rfl)) (xv 3))) (dw_and1 (tisnot (xcall tk (R_open_place F) (hr.mono (by decide)) (F.glo 71 rfl) (acons (xv 0) (acons (xv 1) (acons (xv 2) (acons (xv 7) da_nil))))) xnon)))) (dss_cons (sset 9 S_breaking.nd (xmt pa_dict sl_setdefault rfl (mt_sdf hr.units) (xv 6) (acons (xix hr (xv 7) xint) (acons (xv 7) da_nil))))
  (dss_cons (ds_if (tval (xcall tk (R_are_bad F) (hr.mono (by decide)) (F.glo 76 rfl) (acons (xv 0) (acons (xv 1) (acons (xv 2) (acons (xv 3) (acons (de_lst (acons (xv 9) (acons (xv 7) da_nil))) da_nil))))))) (dss_cons (ds_ret (de_lst (acons (xv 9) (acons (xv 7) da_nil))))
  dss_nil) dss_nil)
  dss_nil)) dss_nil)
  dss_nil))
  (dss_cons (ds_ret xnon)
  dss_nil)))))
theorem R_breaking (F : Fx hk w K mg base) : FnR P w K mg base (G K) (He.ga K "breaking") ["program", "choice", "lot", "wish", "bodies"] 7 [] phi_breaking := by
  obtain ⟨fd, D⟩ := F.def_ (d := d_breaking) 59 rfl
  exact ⟨fd, [], D.kp, .nil, (D.bindsN (fun kV doc pm an cdv ct us hl => (by rcases us with _ | ⟨_, _ | ⟨_, _ | ⟨_, _ | ⟨_, _ | ⟨_, _ | ⟨_, us⟩⟩⟩⟩⟩⟩ <;> first | (cases hl; done) | rfl))), C_breaking F D⟩
abbrev N_Program_bodies : List Str := ["self", "found", "at", "module", "row"]
theorem S_Program_bodies : FnScope N_Program_bodies ["self"] d_Program_bodies.scope := ⟨rfl, rfl, rfl, by decide +kernel, rfl, by decide +kernel, by decide +kernel⟩
theorem R_Program_bodies (F : Fx hk w K mg base) : MtR P w K mg base (G K) "Program" "bodies" ["self"] 1 phi_Program_bodies := by
  obtain ⟨fd, D⟩ := F.def_ (d := d_Program_bodies) 60 rfl
  exact ⟨He.cls_ok (F.fact 106 rfl), _, fd, He.meth_ok (F.fact 124 rfl), (D.bindsN (fun kV doc pm an cdv ct us hl => (by rcases us with _ | ⟨_, _ | ⟨_, us⟩⟩ <;> first | (cases hl; done) | rfl))), fn_ok (N := N_Program_bodies) (sv := ev_Program_bodies) D S_Program_bodies (fun _ _ e => e) fun cdv A outer s H E hcd hr tk ps => (dss_cons (sset 1 S_Program_bodies.nd (de_lstM da_nil))
  (dss_cons (sfor ps (ienum (F.free 35 rfl) (acons (xix hr (xfld (fldOk F (by decide)) (xv 0)) xint) da_nil)) (gtup (gcons (gname 2 S_Program_bodies.nd) (gcons (gname 3 S_Program_bodies.nd) dgs_nil))) (dss_cons (sexpr (xmt pa_list sl_extend rfl mt_ext (xv 1) (acons (de_lc kpV_ok rfl S_Program_bodies.nd (di_any (xv 3)) (blkOk_by (own := [("row", 4)]) (by kernel_rfl)) (by decide) (fun _ _ _ _ _ => (gname 4 S_Program_bodies.nd)) (fun _ _ _ _ _ => (dts_one (teq hr (xix hr (xix hr (xfld (fldOk F (by decide)) (xv 0)) xint) (xix hr (xv 4) xint)) xstr))) (fun _ _ _ _ _ => (de_tup (acons (xv 2) (acons (xix hr (xv 4) xint) da_nil)))) (by intro _; rfl)) da_nil)))
  dss_nil))
  (dss_cons (ds_ret (xv 1))
  dss_nil)))⟩
abbrev N_is_body : List Str := ["program", "thing"]
theorem S_is_body : FnScope N_is_body ["program", "thing"] d_is_body.scope := ⟨rfl, rfl, rfl, by decide +kernel, rfl, by decide +kernel, by decide +kernel⟩
theorem C_is_body (F : Fx hk w K mg base) {fd : FuncData} (D : FunD K d_is_body.name d_is_body.qual d_is_body.params d_is_body.body d_is_body.scope (d_is_body.dvs K) (d_is_body.kws K) (He.ga K "is_body") fd) : FnOk P w K mg base (L2.CX P w) 2 (He.ga K "is_body") fd ["program", "thing"] (spP w K (G K) 2 phi_is_body) :=
  fn_ok (N := N_is_body) (sv := ev_is_body) D S_is_body (fun _ _ e => e) fun cdv A outer s H E hcd hr tk ps => (dss_cons (ds_ret (xin hr (xv 1) (xmeth0 (k := 1) tk (hr.mono (by decide)) (tab1 (MtR.mok (R_Program_bodies F) (by decide))) (xv 0))))
  dss_nil)
theorem R_is_body (F : Fx hk w K mg base) : FnR P w K mg base (G K) (He.ga K "is_body") ["program", "thing"] 2 [] phi_is_body := by
  obtain ⟨fd, D⟩ := F.def_ (d := d_is_body) 61 rfl
  exact ⟨fd, [], D.kp, .nil, (D.bindsN (fun kV doc pm an cdv ct us hl => (by rcases us with _ | ⟨_, _ | ⟨_, _ | ⟨_, us⟩⟩⟩ <;> first | (cases hl; done) | rfl))), C_is_body F D⟩
abbrev N_are_closed : List Str := ["program", "choice", "lot", "bodies", "use", "place", "body", "one", "other"]
theorem S_are_closed : FnScope N_are_closed ["program", "choice", "lot", "bodies"] d_are_closed.scope := ⟨rfl, rfl, rfl, by decide +kernel, rfl, by decide +kernel, by decide +kernel⟩
theorem C_are_closed (F : Fx hk w K mg base) {fd : FuncData} (D : FunD K d_are_closed.name d_are_closed.qual d_are_closed.params d_are_closed.body d_are_closed.scope (d_are_closed.dvs K) (d_are_closed.kws K) (He.ga K "are_closed") fd) : FnOk P w K mg base (L2.CX P w) 5 (He.ga K "are_closed") fd ["program", "choice", "lot", "bodies"] (spP w K (G K) 4 phi_are_closed) :=
  fn_ok (N := N_are_closed) (sv := ev_are_closed) D S_are_closed (fun _ _ e => e) fun cdv A outer s H E hcd hr tk ps => (dss_cons (ds_if (dt_not (tval (xbf (bf_all rfl) rfl (F.free 9 rfl) (acons (de_lc kpV_ok rfl S_are_closed.nd (di_any (xv 3)) (blkOk_by (own := [("body", 6)]) (by kernel_rfl)) (by decide) (fun _ _ _ _ _ => (gname 6 S_are_closed.nd)) (fun _ _ _ _ _ => dts_nil) (fun _ _ _ _ _ => (xcall MP.takes0 (R_is_body F) (hr.mono (by decide)) (F.glo 81 rfl) (acons (xv 0) (acons (xv 6) da_nil)))) (by intro _; rfl)) da_nil)))) (dss_cons (ds_ret xfalse)
  dss_nil) dss_nil)
  (dss_cons (ds_if (dt_not (tval (xbf (bf_all rfl) rfl (F.free 9 rfl) (acons (de_lc kpV_ok rfl S_are_closed.nd (izip (F.free 16 rfl) (acons (xv 3) (acons (de_slice (xv 3) (do_some xint) do_none) da_nil))) (blkOk_by (own := [("one", 7), ("other", 8)]) (by kernel_rfl)) (by decide) (fun _ _ _ _ _ => (gtup (gcons (gname 7 S_are_closed.nd) (gcons (gname 8 S_are_closed.nd) dgs_nil)))) (fun _ _ _ _ _ => dts_nil) (fun _ _ _ _ _ => (xlt hr (xv 7) (xv 8))) (by intro _; rfl)) da_nil)))) (dss_cons (ds_ret xfalse)
  dss_nil) dss_nil)
  (dss_cons (sfor ps (di_any (xcall tk (R_uses_of F) (hr.mono (by decide)) (F.glo 79 rfl) (acons (xv 0) (acons (xv 3) da_nil)))) (gname 4 S_are_closed.nd) (dss_cons (ds_if (teq hr (xix hr (xv 4) xint) xstr) (dss_cons (sset 5 S_are_closed.nd (xcallN tk (RN_met F) (hr.mono (by decide)) (F.glo 33 rfl) (acons (xv 0) (acons (xv 1) (acons (xv 2) (acons (xv 4) da_nil))))))
  (dss_cons (ds_if (twh (dw_and (tisnot (xv 5) xnon) (dw_and (tne hr (xv 5) (xg (gloK_ok (x := "AHEAD") (d := c_AHEAD) F.kin F.ns (F.ex 8 rfl)))) (dw_and1 (tnotin hr (de_tup (acons (xv 5) (acons (xix hr (xv 4) xint) da_nil))) (xv 3)))))) (dss_cons (ds_ret xfalse)
  dss_nil) dss_nil)
  dss_nil)) dss_nil)
  dss_nil))
  (dss_cons (ds_ret xtrue)
  dss_nil))))
theorem R_are_closed (F : Fx hk w K mg base) : FnR P w K mg base (G K) (He.ga K "are_closed") ["program", "choice", "lot", "bodies"] 5 [] phi_are_closed := by
  obtain ⟨fd, D⟩ := F.def_ (d := d_are_closed) 62 rfl
  exact ⟨fd, [], D.kp, .nil, (D.bindsN (fun kV doc pm an cdv ct us hl => (by rcases us with _ | ⟨_, _ | ⟨_, _ | ⟨_, _ | ⟨_, _ | ⟨_, us⟩⟩⟩⟩⟩ <;> first | (cases hl; done) | rfl))), C_are_closed F D⟩
abbrev N_Holds_is_calm : List Str := ["self", "program", "choice", "wish", "lot", "some"]
theorem S_Holds_is_calm : FnScope N_Holds_is_calm ["self", "program", "choice", "wish", "lot"] d_Holds_is_calm.scope := ⟨rfl, rfl, rfl, by decide +kernel, rfl, by decide +kernel, by decide +kernel⟩
theorem R_Holds_is_calm (F : Fx hk w K mg base) : MtR P w K mg base (G K) "Holds" "is_calm" ["self", "program", "choice", "wish", "lot"] 8 phi_Holds_is_calm := by
  obtain ⟨fd, D⟩ := F.def_ (d := d_Holds_is_calm) 63 rfl
  exact ⟨He.cls_ok (F.fact 125 rfl), _, fd, He.meth_ok (F.fact 126 rfl), (D.bindsN (fun kV doc pm an cdv ct us hl => (by rcases us with _ | ⟨_, _ | ⟨_, _ | ⟨_, _ | ⟨_, _ | ⟨_, _ | ⟨_, us⟩⟩⟩⟩⟩⟩ <;> first | (cases hl; done) | rfl))), fn_ok (N := N_Holds_is_calm) (sv := ev_Holds_is_calm) D S_Holds_is_calm (fun _ _ e => e) fun cdv A outer s H E hcd hr tk ps => (dss_cons (sset 5 S_Holds_is_calm.nd (xix hr (xfld (fldOk F (by decide)) (xv 0)) (xv 4)))
  (dss_cons (ds_ret (de_and (xcall tk (R_are_closed F) (hr.mono (by decide)) (F.glo 82 rfl) (acons (xv 1) (acons (xv 2) (acons (xv 4) (acons (xv 5) da_nil))))) (de_one (xis (xcall tk (R_breaking F) (hr.mono (by decide)) (F.glo 80 rfl) (acons (xv 1) (acons (xv 2) (acons (xv 4) (acons (xv 3) (acons (xv 5) da_nil)))))) xnon))))
  dss_nil))⟩
abbrev N_lots_of : List Str := ["program", "found", "name", "lot", "item"]
theorem S_lots_of : FnScope N_lots_of ["program"] d_lots_of.scope := ⟨rfl, rfl, rfl, by decide +kernel, rfl, by decide +kernel, by decide +kernel⟩
theorem C_lots_of (F : Fx hk w K mg base) {fd : FuncData} (D : FunD K d_lots_of.name d_lots_of.qual d_lots_of.params d_lots_of.body d_lots_of.scope (d_lots_of.dvs K) (d_lots_of.kws K) (He.ga K "lots_of") fd) : FnOk P w K mg base (L2.CX P w) 6 (He.ga K "lots_of") fd ["program"] (spP w K (G K) 1 phi_lots_of) :=
  fn_ok (N := N_lots_of) (sv := ev_lots_of) D S_lots_of (fun _ _ e => e) fun cdv A outer s H E hcd hr tk ps => (dss_cons (sset 1 S_lots_of.nd (de_lst (acons (de_tup da_nil) da_nil)))
  (dss_cons (sfor ps (irange1 (F.free 20 rfl) (acons (xbf (lenT (k := 1) (hr.mono (by decide)) (tabL1 (R_Program_len F))) rfl (F.free 10 rfl) (acons (xv 0) da_nil)) da_nil)) (gname 2 S_lots_of.nd) (dss_cons (by first | exact sset 1 S_lots_of.nd (de_lc2 (vs1 := [4]) kpV_ok rfl S_lots_of.nd (di_any (xv 1)) (blkOk_by (own := [("lot", 3), ("item", 4)]) (by kernel_rfl)) (by decide) (by decide) (by decide) (fun _ _ _ _ _ => (gname 3 S_lots_of.nd)) (fun _ _ _ _ _ => dts_nil) (fun _ _ _ _ _ => (di_any (de_tup (acons xint (acons xint (acons xint da_nil)))))) (fun _ _ _ _ _ => (gname 4 S_lots_of.nd)) (fun _ _ _ _ _ => dts_nil) (fun _ _ _ _ _ => (de_tup (astar (xv 3) (acons (xv 4) da_nil)))) (by intro _; rfl) (by intro _ _; rfl)) | exact ds_setLc2 (vs1 := [4]) kpV_ok rfl S_lots_of.nd rfl rfl rfl (di_any (xv 1)) (blkOk_by (own := [("lot", 3), ("item", 4)]) (by kernel_rfl)) (by decide) (by decide) (by decide) (fun _ _ _ _ _ => (gname 3 S_lots_of.nd)) (fun _ _ _ _ _ => dts_nil) (fun _ _ _ _ _ => (di_any (de_tup (acons xint (acons xint (acons xint da_nil)))))) (fun _ _ _ _ _ => (gname 4 S_lots_of.nd)) (fun _ _ _ _ _ => dts_nil) (fun _ _ _ _ _ => (de_tup (astar (xv 3) (acons (xv 4) da_nil)))) (by intro _; rfl) (by intro _ _; rfl))
  dss_nil))
  (dss_cons (ds_ret (de_sortK (k := 2) (N := ["lot", "item"]) (fr := []) (js := []) (nm := lamN0) rfl (F.free 31 rfl) (F.tb _ tfm0) (hcd.trans (codeAt (p := ("lots_of", none)) D)) tfi0 rfl tfu0 rfl (NdefX.nscope_by (by kernel_rfl)) (by kernel_rfl) rfl (hr.mono (by decide)) (fun _ _ _ _ _ _ => rfl) (fun f c1 s1 H1 hr => (de_tup (acons (xbf (lenT (k := 1) (hr.mono (by decide)) (tabL1 (R_Program_len F))) rfl (F.free 10 rfl) (acons (de_lc kpV_ok rfl LN0 (di_any (xv 0)) (blkOk_by (own := [("item", 1)]) (by kernel_rfl)) (by decide) (fun _ _ _ _ _ => (gname 1 LN0)) (fun _ _ _ _ _ => (dts_one (tgt hr (xv 1) xint))) (fun _ _ _ _ _ => (xv 1)) (by intro _; rfl)) da_nil)) (acons (xv 0) da_nil)))) (acons (xv 1) da_nil) rfl rfl))
  dss_nil)))
theorem R_lots_of (F : Fx hk w K mg base) : FnR P w K mg base (G K) (He.ga K "lots_of") ["program"] 6 [] phi_lots_of := by
  obtain ⟨fd, D⟩ := F.def_ (d := d_lots_of) 64 rfl
  exact ⟨fd, [], D.kp, .nil, (D.bindsN (fun kV doc pm an cdv ct us hl => (by rcases us with _ | ⟨_, _ | ⟨_, us⟩⟩ <;> first | (cases hl; done) | rfl))), C_lots_of F D⟩
abbrev N_check_wish_judging : List Str := ["program", "choice", "wish"]
theorem S_check_wish_judging : FnScope N_check_wish_judging ["program", "choice", "wish"] d_check_wish_judging.scope := ⟨rfl, rfl, rfl, by decide +kernel, rfl, by decide +kernel, by decide +kernel⟩
theorem C_check_wish_judging (F : Fx hk w K mg base) {fd : FuncData} (D : FunD K d_check_wish_judging.name d_check_wish_judging.qual d_check_wish_judging.params d_check_wish_judging.body d_check_wish_judging.scope (d_check_wish_judging.dvs K) (d_check_wish_judging.kws K) (He.ga K "check_wish_judging") fd) : FnOk P w K mg base (L2.CX P w) 6 (He.ga K "check_wish_judging") fd ["program", "choice", "wish"] (spP w K (G K) 3 phi_check_wish_judging) :=
  fn_ok (N := N_check_wish_judging) (sv := ev_check_wish_judging) D S_check_wish_judging (fun _ _ e => e) fun cdv A outer s H E hcd hr tk ps => (dss_cons (sexpr (xcall tk (R_check_choice F) (hr.mono (by decide)) (F.glo 28 rfl) (acons (xv 0) (acons (xv 1) da_nil))))
  (dss_cons (ds_if (dt_not (tval (xcall tk (R_is_word F) (hr.mono (by decide)) (F.glo 3 rfl) (acons (xv 2) (acons (xg (gloK_ok (x := "WISHES") (d := c_WISHES) F.kin F.ns (F.ex 24 rfl))) da_nil))))) (dss_cons (sraise tk (F.fact 50 rfl) rfl (F.glo 51 rfl) xstr)
  dss_nil) dss_nil)
  dss_nil))
theorem R_check_wish_judging (F : Fx hk w K mg base) : FnR P w K mg base (G K) (He.ga K "check_wish_judging") ["program", "choice", "wish"] 6 [] phi_check_wish_judging := by
  obtain ⟨fd, D⟩ := F.def_ (d := d_check_wish_judging) 65 rfl
  exact ⟨fd, [], D.kp, .nil, (D.bindsN (fun kV doc pm an cdv ct us hl => (by rcases us with _ | ⟨_, _ | ⟨_, _ | ⟨_, _ | ⟨_, us⟩⟩⟩⟩ <;> first | (cases hl; done) | rfl))), C_check_wish_judging F D⟩
abbrev N_Holds_shows : List Str := ["self", "program", "choice", "wish", "every", "lot"]
theorem S_Holds_shows : FnScope N_Holds_shows ["self", "program", "choice", "wish"] d_Holds_shows.scope := ⟨rfl, rfl, rfl, by decide +kernel, rfl, by decide +kernel, by decide +kernel⟩
theorem R_Holds_shows (F : Fx hk w K mg base) : MtR P w K mg base (G K) "Holds" "shows" ["self", "program", "choice", "wish"] 9 phi_Holds_shows := by
  obtain ⟨fd, D⟩ := F.def_ (d := d_Holds_shows) 66 rfl
  exact ⟨He.cls_ok (F.fact 125 rfl), _, fd, He.meth_ok (F.fact 127 rfl), (D.bindsN (fun kV doc pm an cdv ct us hl => (by rcases us with _ | ⟨_, _ | ⟨_, _ | ⟨_, _ | ⟨_, _ | ⟨_, us⟩⟩⟩⟩⟩ <;> first | (cases hl; done) | rfl))), fn_ok (N := N_Holds_shows) (sv := ev_Holds_shows) D S_Holds_shows (fun _ _ e => e) fun cdv A outer s H E hcd hr tk ps => (dss_cons (sexpr (xcall tk (R_check_wish_judging F) (hr.mono (by decide)) (F.glo 84 rfl) (acons (xv 1) (acons (xv 2) (acons (xv 3) da_nil)))))
  (dss_cons (sset 4 S_Holds_shows.nd (xcall tk (R_lots_of F) (hr.mono (by decide)) (F.glo 83 rfl) (acons (xv 1) da_nil)))
  (dss_cons (ds_if (twh (dw_or (tne hr (xbf (lenT (k := 1) (hr.mono (by decide)) (tabL1 (R_Program_len F))) rfl (F.free 10 rfl) (acons (xfld (fldOk F (by decide)) (xv 0)) da_nil)) (xbf (lenT (k := 1) (hr.mono (by decide)) (tabL1 (R_Program_len F))) rfl (F.free 10 rfl) (acons (xv 4) da_nil))) (dw_or1 (dt_not (tval (xbf (bf_all rfl) rfl (F.free 9 rfl) (acons (de_lc kpV_ok rfl S_Holds_shows.nd (di_any (xv 4)) (blkOk_by (own := [("lot", 5)]) (by kernel_rfl)) (by decide) (fun _ _ _ _ _ => (gname 5 S_Holds_shows.nd)) (fun _ _ _ _ _ => dts_nil) (fun _ _ _ _ _ => (xin hr (xv 5) (xfld (fldOk F (by decide)) (xv 0)))) (by intro _; rfl)) da_nil))))))) (dss_cons (ds_ret xfalse)
  dss_nil) dss_nil)
  (dss_cons (ds_ret (xbf (bf_all rfl) rfl (F.free 9 rfl) (acons (de_lc kpV_ok rfl S_Holds_shows.nd (di_any (xv 4)) (blkOk_by (own := [("lot", 5)]) (by kernel_rfl)) (by decide) (fun _ _ _ _ _ => (gname 5 S_Holds_shows.nd)) (fun _ _ _ _ _ => dts_nil) (fun _ _ _ _ _ => (xmeth (k := 8) MP.takes0 (hr.mono (by decide)) (tab1 (MtR.mok (R_Holds_is_calm F) (by decide))) (xv 0) (acons (xv 1) (acons (xv 2) (acons (xv 3) (acons (xv 5) da_nil)))))) (by intro _; rfl)) da_nil)))
  dss_nil))))⟩
abbrev N_is_use : List Str := ["program", "thing"]
theorem S_is_use : FnScope N_is_use ["program", "thing"] d_is_use.scope := ⟨rfl, rfl, rfl, by decide +kernel, rfl, by decide +kernel, by decide +kernel⟩
theorem C_is_use (F : Fx hk w K mg base) {fd : FuncData} (D : FunD K d_is_use.name d_is_use.qual d_is_use.params d_is_use.body d_is_use.scope (d_is_use.dvs K) (d_is_use.kws K) (He.ga K "is_use") fd) : FnOk P w K mg base (L2.CX P w) 4 (He.ga K "is_use") fd ["program", "thing"] (spP w K (G K) 2 phi_is_use) :=
  fn_ok (N := N_is_use) (sv := ev_is_use) D S_is_use (fun _ _ e => e) fun cdv A outer s H E hcd hr tk ps => (dss_cons (ds_if (twh (dw_or (dt_not (tval (xisiT (isaB_ok (T := ["tuple"]) (own := owns) (fun _ => rfl) (F.ex 6 rfl)) (F.free 1 rfl) (F.free 11 rfl) (xv 1) rfl))) (dw_or (tne hr (xbf (lenT (k := 1) (hr.mono (by decide)) (tabL1 (R_Program_len F))) rfl (F.free 10 rfl) (acons (xv 1) da_nil)) xint) (dw_or1 (dt_not (tval (xisiT (isaB_ok (T := ["str"]) (own := owns) (fun _ => rfl) (F.ex 2 rfl)) (F.free 1 rfl) (F.free 2 rfl) (xix hr (xv 1) xint) rfl))))))) (dss_cons (ds_ret xfalse)
  dss_nil) dss_nil)
  (dss_cons (ds_if (dt_not (tval (xcall tk (R_is_number F) (hr.mono (by decide)) (F.glo 8 rfl) (acons (xix hr (xv 1) xint) (acons xint (acons (xsub (xbf (lenT (k := 1) (hr.mono (by decide)) (tabL1 (R_Program_len F))) rfl (F.free 10 rfl) (acons (xv 0) da_nil)) xint) da_nil)))))) (dss_cons (ds_ret xfalse)
  dss_nil) dss_nil)
  (dss_cons (ds_if (tis (xix hr (xv 1) xint) xnon) (dss_cons (ds_ret (xin hr (xv 1) (xcall tk (R_outer_uses F) (hr.mono (by decide)) (F.glo 78 rfl) (acons (xv 0) da_nil))))
  dss_nil) dss_nil)
  (dss_cons (ds_ret (de_and (xcall tk (R_is_number F) (hr.mono (by decide)) (F.glo 8 rfl) (acons (xix hr (xv 1) xint) (acons xint (acons (xsub (xbf (lenT (k := 1) (hr.mono (by decide)) (tabL1 (R_Program_len F))) rfl (F.free 10 rfl) (acons (xprop (R_Program_modules F) (hr.mono (by decide)) (xv 0)) da_nil)) xint) da_nil)))) (de_one (xin hr (xv 1) (xmeth0 (k := 1) tk (hr.mono (by decide)) (tab1 (MtR.mok (R_Program_uses F) (by decide))) (xv 0))))))
  dss_nil))))
theorem R_is_use (F : Fx hk w K mg base) : FnR P w K mg base (G K) (He.ga K "is_use") ["program", "thing"] 4 [] phi_is_use := by
  obtain ⟨fd, D⟩ := F.def_ (d := d_is_use) 67 rfl
  exact ⟨fd, [], D.kp, .nil, (D.bindsN (fun kV doc pm an cdv ct us hl => (by rcases us with _ | ⟨_, _ | ⟨_, _ | ⟨_, us⟩⟩⟩ <;> first | (cases hl; done) | rfl))), C_is_use F D⟩
abbrev N_is_way : List Str := ["program", "choice", "lot", "way", "body", "name", "row", "use", "call", "place"]
theorem S_is_way : FnScope N_is_way ["program", "choice", "lot", "way"] d_is_way.scope := ⟨rfl, rfl, rfl, by decide +kernel, rfl, by decide +kernel, by decide +kernel⟩
theorem C_is_way (F : Fx hk w K mg base) {fd : FuncData} (D : FunD K d_is_way.name d_is_way.qual d_is_way.params d_is_way.body d_is_way.scope (d_is_way.dvs K) (d_is_way.kws K) (He.ga K "is_way") fd) : FnOk P w K mg base (L2.CX P w) 5 (He.ga K "is_way") fd ["program", "choice", "lot", "way"] (spP w K (G K) 4 phi_is_way) :=
  fn_ok (N := N_is_way) (sv := ev_is_way) D S_is_way (fun _ _ e => e) fun cdv A outer s H E hcd hr tk ps => (dss_cons (sasg (xv 3) (gtup (gcons (gname 6 S_is_way.nd) (gcons (gname 7 S_is_way.nd) dgs_nil))))
  (dss_cons (sset 4 S_is_way.nd xnon)
  (dss_cons (sfor ps (di_any (xv 6)) (gname 5 S_is_way.nd) (dss_cons (sset 8 S_is_way.nd (de_tup (acons (de_ite (tis (xv 4) xnon) xnon (xix hr (xv 4) xint)) (acons xstr (acons (xv 5) da_nil)))))
  (dss_cons (ds_if (twh (dw_or (dt_not (tval (xcall tk (R_is_use F) (hr.mono (by decide)) (F.glo 85 rfl) (acons (xv 0) (acons (xv 8) da_nil))))) (dw_or1 (twh (dw_and (tisnot (xv 4) xnon) (dw_and1 (tnotin hr (xv 8) (xcall tk (R_uses_in F) (hr.mono (by decide)) (F.glo 77 rfl) (acons (xv 0) (acons (xv 4) da_nil)))))))))) (dss_cons (ds_ret xfalse)
  dss_nil) dss_nil)
  (dss_cons (sset 9 S_is_way.nd (xcallN tk (RN_met F) (hr.mono (by decide)) (F.glo 33 rfl) (acons (xv 0) (acons (xv 1) (acons (xv 2) (acons (xv 8) da_nil))))))
  (dss_cons (ds_if (twh (dw_or (tis (xv 9) xnon) (dw_or1 (teq hr (xv 9) (xg (gloK_ok (x := "AHEAD") (d := c_AHEAD) F.kin F.ns (F.ex 8 rfl))))))) (dss_cons (ds_ret xfalse)
  dss_nil) dss_nil)
  (dss_cons (sset 4 S_is_way.nd (de_tup (acons (xv 9) (acons (xv 5) da_nil))))
  dss_nil))))))
  (dss_cons (ds_if (dt_not (tval (xcall tk (R_is_use F) (hr.mono (by decide)) (F.glo 85 rfl) (acons (xv 0) (acons (xv 7) da_nil))))) (dss_cons (ds_ret xfalse)
  dss_nil) dss_nil)
  (dss_cons (ds_ret (de_ite (tis (xv 4) xnon) (xis (xix hr (xv 7) xint) xnon) (xin hr (xv 7) (xcall tk (R_uses_in F) (hr.mono (by decide)) (F.glo 77 rfl) (acons (xv 0) (acons (xv 4) da_nil))))))
  dss_nil)))))
theorem R_is_way (F : Fx hk w K mg base) : FnR P w K mg base (G K) (He.ga K "is_way") ["program", "choice", "lot", "way"] 5 [] phi_is_way := by
  obtain ⟨fd, D⟩ := F.def_ (d := d_is_way) 68 rfl
  exact ⟨fd, [], D.kp, .nil, (D.bindsN (fun kV doc pm an cdv ct us hl => (by rcases us with _ | ⟨_, _ | ⟨_, _ | ⟨_, _ | ⟨_, _ | ⟨_, us⟩⟩⟩⟩⟩ <;> first | (cases hl; done) | rfl))), C_is_way F D⟩
abbrev N_Fails_shows : List Str := ["self", "program", "choice", "wish", "way"]
theorem S_Fails_shows : FnScope N_Fails_shows ["self", "program", "choice", "wish"] d_Fails_shows.scope := ⟨rfl, rfl, rfl, by decide +kernel, rfl, by decide +kernel, by decide +kernel⟩
theorem R_Fails_shows (F : Fx hk w K mg base) : MtR P w K mg base (G K) "Fails" "shows" ["self", "program", "choice", "wish"] 7 phi_Fails_shows := by
  obtain ⟨fd, D⟩ := F.def_ (d := d_Fails_shows) 69 rfl
  exact ⟨He.cls_ok (F.fact 128 rfl), _, fd, He.meth_ok (F.fact 129 rfl), (D.bindsN (fun kV doc pm an cdv ct us hl => (by rcases us with _ | ⟨_, _ | ⟨_, _ | ⟨_, _ | ⟨_, _ | ⟨_, us⟩⟩⟩⟩⟩ <;> first | (cases hl; done) | rfl))), fn_ok (N := N_Fails_shows) (sv := ev_Fails_shows) D S_Fails_shows (fun _ _ e => e) fun cdv A outer s H E hcd hr tk ps => (dss_cons (sexpr (xcall tk (R_check_wish_judging F) (hr.mono (by decide)) (F.glo 84 rfl) (acons (xv 1) (acons (xv 2) (acons (xv 3) da_nil)))))
  (dss_cons (ds_if (dt_not (tval (xcall tk (R_is_lot F) (hr.mono (by decide)) (F.glo 12 rfl) (acons (xv 1) (acons (xfld (fldOk F (by decide)) (xv 0)) da_nil))))) (dss_cons (ds_ret xfalse)
  dss_nil) dss_nil)
  (dss_cons (ds_if (dt_not (tval (xbf (bf_all rfl) rfl (F.free 9 rfl) (acons (de_lc kpV_ok rfl S_Fails_shows.nd (di_any (xfld (fldOk F (by decide)) (xv 0))) (blkOk_by (own := [("way", 4)]) (by kernel_rfl)) (by decide) (fun _ _ _ _ _ => (gname 4 S_Fails_shows.nd)) (fun _ _ _ _ _ => dts_nil) (fun _ _ _ _ _ => (xcall MP.takes0 (R_is_way F) (hr.mono (by decide)) (F.glo 86 rfl) (acons (xv 1) (acons (xv 2) (acons (xfld (fldOk F (by decide)) (xv 0)) (acons (xv 4) da_nil)))))) (by intro _; rfl)) da_nil)))) (dss_cons (ds_ret xfalse)
  dss_nil) dss_nil)
  (dss_cons (ds_ret (xcall tk (R_are_bad F) (hr.mono (by decide)) (F.glo 76 rfl) (acons (xv 1) (acons (xv 2) (acons (xfld (fldOk F (by decide)) (xv 0)) (acons (xv 3) (acons (de_lc kpV_ok rfl S_Fails_shows.nd (di_any (xfld (fldOk F (by decide)) (xv 0))) (blkOk_by (own := [("way", 4)]) (by kernel_rfl)) (by decide) (fun _ _ _ _ _ => (gname 4 S_Fails_shows.nd)) (fun _ _ _ _ _ => dts_nil) (fun _ _ _ _ _ => (xix hr (xv 4) xint)) (by intro _; rfl)) da_nil)))))))
  dss_nil))))⟩
end
end MPK36
set_option Elab.async false
set_option linter.all false
set_option maxRecDepth 100000
set_option maxHeartbeats 1000000
namespace MPK36
open PySem PySem.Spec PyProof.Rows L2 MP
section
variable {w : World} {K : PySem.W.Frag} {mg : Str → Option Value} {base : Heap}
abbrev N_Fails_init : List Str := ["self", "ahead", "ways"]
theorem S_Fails_init : FnScope N_Fails_init ["self", "ahead", "ways"] d_Fails_init.scope := ⟨rfl, rfl, rfl, by decide +kernel, rfl, by decide +kernel, by decide +kernel⟩
theorem R_Fails_init (F : Fx hk w K mg base) : MkR P w K mg base (G K) "Fails" ["self", "ahead", "ways"] 1 phi_Fails_init := by
  obtain ⟨fd, D⟩ := F.def_ (d := d_Fails_init) 70 rfl
  exact ⟨(by decide : ("Fails" : Str) ∈ owns), _, fd, He.mkr_ok (F.fact 130 rfl), (D.bindsN (fun kV doc pm an cdv ct us hl => (by rcases us with _ | ⟨_, _ | ⟨_, _ | ⟨_, _ | ⟨_, us⟩⟩⟩⟩ <;> first | (cases hl; done) | rfl))), fnI_ok (N := N_Fails_init) (sv := ev_Fails_init) D S_Fails_init (fun _ _ e => e) fun cdv A outer s H E hr tk ps => (dss_cons (sfld (fldOk F (by decide)) (xv 1) (xv 0))
  (dss_cons (sfld (fldOk F (by decide)) (xv 2) (xv 0))
  dss_nil))⟩
abbrev N_way_to : List Str := ["program", "rows", "use", "bodies", "body"]
theorem S_way_to : FnScope N_way_to ["program", "rows", "use"] d_way_to.scope := ⟨rfl, rfl, rfl, by decide +kernel, rfl, by decide +kernel, by decide +kernel⟩
theorem C_way_to (F : Fx hk w K mg base) {fd : FuncData} (D : FunD K d_way_to.name d_way_to.qual d_way_to.params d_way_to.body d_way_to.scope (d_way_to.dvs K) (d_way_to.kws K) (He.ga K "way_to") fd) : FnOk P w K mg base (L2.CX P w) 3 (He.ga K "way_to") fd ["program", "rows", "use"] (spP w K (G K) 3 phi_way_to) :=
  fn_ok (N := N_way_to) (sv := ev_way_to) D S_way_to (fun _ _ e => e) fun cdv A outer s H E hcd hr tk ps => (dss_cons (ds_if (tis (xix hr (xv 2) xint) xnon) (dss_cons (ds_ret (de_tup (acons (de_tup da_nil) (acons (xv 2) da_nil))))
  dss_nil) dss_nil)
  (dss_cons (by first | exact sset 3 S_way_to.nd (de_lc kpV_ok rfl S_way_to.nd (di_any (xv 1)) (blkOk_by (own := [("body", 4)]) (by kernel_rfl)) (by decide) (fun _ _ _ _ _ => (gname 4 S_way_to.nd)) (fun _ _ _ _ _ => (dts_one (tin hr (xv 2) (xcall MP.takes0 (R_uses_in F) (hr.mono (by decide)) (F.glo 77 rfl) (acons (xv 0) (acons (xv 4) da_nil)))))) (fun _ _ _ _ _ => (xv 4)) (by intro _; rfl)) | exact ds_setLc kpV_ok rfl S_way_to.nd rfl rfl rfl (di_any (xv 1)) (blkOk_by (own := [("body", 4)]) (by kernel_rfl)) (by decide) (fun _ _ _ _ _ => (gname 4 S_way_to.nd)) (fun _ _ _ _ _ => (dts_one (tin hr (xv 2) (xcall MP.takes0 (R_uses_in F) (hr.mono (by decide)) (F.glo 77 rfl) (acons (xv 0) (acons (xv 4) da_nil)))))) (fun _ _ _ _ _ => (xv 4)) (by intro _; rfl))
  (dss_cons (ds_ret (de_tup (acons (xix hr (xv 1) (xix hr (xv 3) xint)) (acons (xv 2) da_nil))))
  dss_nil)))
theorem R_way_to (F : Fx hk w K mg base) : FnR P w K mg base (G K) (He.ga K "way_to") ["program", "rows", "use"] 3 [] phi_way_to := by
  obtain ⟨fd, D⟩ := F.def_ (d := d_way_to) 71 rfl
  exact ⟨fd, [], D.kp, .nil, (D.bindsN (fun kV doc pm an cdv ct us hl => (by rcases us with _ | ⟨_, _ | ⟨_, _ | ⟨_, _ | ⟨_, us⟩⟩⟩⟩ <;> first | (cases hl; done) | rfl))), C_way_to F D⟩
abbrev N_rows_to : List Str := ["program", "choice", "lot", "found", "waiting", "place", "body", "row", "use", "one"]
theorem S_rows_to : FnScope N_rows_to ["program", "choice", "lot"] d_rows_to.scope := ⟨rfl, rfl, rfl, by decide +kernel, rfl, by decide +kernel, by decide +kernel⟩
theorem C_rows_to (F : Fx hk w K mg base) {fd : FuncData} (D : FunD K d_rows_to.name d_rows_to.qual d_rows_to.params d_rows_to.body d_rows_to.scope (d_rows_to.dvs K) (d_rows_to.kws K) (He.ga K "rows_to") fd) : FnOk P w K mg base (L2.CX P w) 4 (He.ga K "rows_to") fd ["program", "choice", "lot"] (spP w K (G K) 3 phi_rows_to) :=
  fn_ok (N := N_rows_to) (sv := ev_rows_to) D S_rows_to (fun _ _ e => e) fun cdv A outer s H E hcd hr tk ps => (dss_cons (by first | exact spar 3 4 S_rows_to.nd (acons de_dct0 (acons (de_lc kpM_ok rfl S_rows_to.nd (di_any (xcall tk (R_outer_uses F) (hr.mono (by decide)) (F.glo 78 rfl) (acons (xv 0) da_nil))) (blkOk_by (own := [("use", 8)]) (by kernel_rfl)) (by decide) (fun _ _ _ _ _ => (gname 8 S_rows_to.nd)) (fun _ _ _ _ _ => (dts_one (teq hr (xix hr (xv 8) xint) xstr))) (fun _ _ _ _ _ => (de_tup (acons (de_tup da_nil) (acons (xv 8) da_nil)))) (by intro _; rfl)) da_nil)) | exact sparC 3 4 S_rows_to.nd (acons de_dct0 (acons (de_lc kpM_ok rfl S_rows_to.nd (di_any (xcall tk (R_outer_uses F) (hr.mono (by decide)) (F.glo 78 rfl) (acons (xv 0) da_nil))) (blkOk_by (own := [("use", 8)]) (by kernel_rfl)) (by decide) (fun _ _ _ _ _ => (gname 8 S_rows_to.nd)) (fun _ _ _ _ _ => (dts_one (teq hr (xix hr (xv 8) xint) xstr))) (fun _ _ _ _ _ => (de_tup (acons (de_tup da_nil) (acons (xv 8) da_nil)))) (by intro _; rfl)) da_nil)))
  (dss_cons (ds_while 2000 ps (tne hr (xv 4) (de_lst da_nil)) (dss_cons (sasg (xmt pa_list sl_pop rfl mt_popD (xv 4) (acons xint da_nil)) (gtup (gcons (gname 7 S_rows_to.nd) (gcons (gname 8 S_rows_to.nd) dgs_nil))))
  (dss_cons (sset 5 S_rows_to.nd (xcallN tk (RN_met F) (hr.mono (by decide)) (F.glo 33 rfl) (acons (xv 0) (acons (xv 1) (acons (xv 2) (acons (xv 8) da_nil))))))
  (dss_cons (sset 6 S_rows_to.nd (de_tup (acons (xv 5) (acons (xix hr (xv 8) xint) da_nil))))
  (dss_cons (ds_if (twh (dw_and (tisnot (xv 5) xnon) (dw_and (tne hr (xv 5) (xg (gloK_ok (x := "AHEAD") (d := c_AHEAD) F.kin F.ns (F.ex 8 rfl)))) (dw_and1 (tnotin hr (xv 6) (xv 3)))))) (dss_cons (sput hr (de_tup (astar (xv 7) (acons (xix hr (xv 8) xint) da_nil))) (xv 3) (xv 6))
  (dss_cons (sexpr (xmt pa_list sl_extend rfl mt_ext (xv 4) (acons (de_lc kpV_ok rfl S_rows_to.nd (di_any (xcall tk (R_uses_in F) (hr.mono (by decide)) (F.glo 77 rfl) (acons (xv 0) (acons (xv 6) da_nil)))) (blkOk_by (own := [("one", 9)]) (by kernel_rfl)) (by decide) (fun _ _ _ _ _ => (gname 9 S_rows_to.nd)) (fun _ _ _ _ _ => (dts_one (teq hr (xix hr (xv 9) xint) xstr))) (fun _ _ _ _ _ => (de_tup (acons (xix hr (xv 3) (xv 6)) (acons (xv 9) da_nil)))) (by intro _; rfl)) da_nil)))
  dss_nil)) dss_nil)
  dss_nil)))))
  (dss_cons (ds_ret (xv 3))
  dss_nil)))
theorem R_rows_to (F : Fx hk w K mg base) : FnR P w K mg base (G K) (He.ga K "rows_to") ["program", "choice", "lot"] 4 [] phi_rows_to := by
  obtain ⟨fd, D⟩ := F.def_ (d := d_rows_to) 72 rfl
  exact ⟨fd, [], D.kp, .nil, (D.bindsN (fun kV doc pm an cdv ct us hl => (by rcases us with _ | ⟨_, _ | ⟨_, _ | ⟨_, _ | ⟨_, us⟩⟩⟩⟩ <;> first | (cases hl; done) | rfl))), C_rows_to F D⟩
abbrev N_live_bodies : List Str := ["program", "choice", "lot", "found", "waiting", "use", "place", "body", "one"]
theorem S_live_bodies : FnScope N_live_bodies ["program", "choice", "lot"] d_live_bodies.scope := ⟨rfl, rfl, rfl, by decide +kernel, rfl, by decide +kernel, by decide +kernel⟩
theorem C_live_bodies (F : Fx hk w K mg base) {fd : FuncData} (D : FunD K d_live_bodies.name d_live_bodies.qual d_live_bodies.params d_live_bodies.body d_live_bodies.scope (d_live_bodies.dvs K) (d_live_bodies.kws K) (He.ga K "live_bodies") fd) : FnOk P w K mg base (L2.CX P w) 4 (He.ga K "live_bodies") fd ["program", "choice", "lot"] (spP w K (G K) 3 phi_live_bodies) :=
  fn_ok (N := N_live_bodies) (sv := ev_live_bodies) D S_live_bodies (fun _ _ e => e) fun cdv A outer s H E hcd hr tk ps => (dss_cons (by first | exact spar 3 4 S_live_bodies.nd (acons de_dct0 (acons (de_lc kpM_ok rfl S_live_bodies.nd (di_any (xcall tk (R_outer_uses F) (hr.mono (by decide)) (F.glo 78 rfl) (acons (xv 0) da_nil))) (blkOk_by (own := [("use", 5)]) (by kernel_rfl)) (by decide) (fun _ _ _ _ _ => (gname 5 S_live_bodies.nd)) (fun _ _ _ _ _ => (dts_one (teq hr (xix hr (xv 5) xint) xstr))) (fun _ _ _ _ _ => (xv 5)) (by intro _; rfl)) da_nil)) | exact sparC 3 4 S_live_bodies.nd (acons de_dct0 (acons (de_lc kpM_ok rfl S_live_bodies.nd (di_any (xcall tk (R_outer_uses F) (hr.mono (by decide)) (F.glo 78 rfl) (acons (xv 0) da_nil))) (blkOk_by (own := [("use", 5)]) (by kernel_rfl)) (by decide) (fun _ _ _ _ _ => (gname 5 S_live_bodies.nd)) (fun _ _ _ _ _ => (dts_one (teq hr (xix hr (xv 5) xint) xstr))) (fun _ _ _ _ _ => (xv 5)) (by intro _; rfl)) da_nil)))
  (dss_cons (ds_while 2000 ps (tne hr (xv 4) (de_lst da_nil)) (dss_cons (sset 5 S_live_bodies.nd (xmt0 pa_list sl_pop rfl mt_popD (xv 4)))
  (dss_cons (sset 6 S_live_bodies.nd (xcallN tk (RN_met F) (hr.mono (by decide)) (F.glo 33 rfl) (acons (xv 0) (acons (xv 1) (acons (xv 2) (acons (xv 5) da_nil))))))
  (dss_cons (sset 7 S_live_bodies.nd (de_tup (acons (xv 6) (acons (xix hr (xv 5) xint) da_nil))))
  (dss_cons (ds_if (twh (dw_and (tisnot (xv 6) xnon) (dw_and (tne hr (xv 6) (xg (gloK_ok (x := "AHEAD") (d := c_AHEAD) F.kin F.ns (F.ex 8 rfl)))) (dw_and1 (tnotin hr (xv 7) (xv 3)))))) (dss_cons (sput hr xtrue (xv 3) (xv 7))
  (dss_cons (sexpr (xmt pa_list sl_extend rfl mt_ext (xv 4) (acons (de_lc kpV_ok rfl S_live_bodies.nd (di_any (xcall tk (R_uses_in F) (hr.mono (by decide)) (F.glo 77 rfl) (acons (xv 0) (acons (xv 7) da_nil)))) (blkOk_by (own := [("one", 8)]) (by kernel_rfl)) (by decide) (fun _ _ _ _ _ => (gname 8 S_live_bodies.nd)) (fun _ _ _ _ _ => (dts_one (teq hr (xix hr (xv 8) xint) xstr))) (fun _ _ _ _ _ => (xv 8)) (by intro _; rfl)) da_nil)))
  dss_nil)) dss_nil)
  dss_nil)))))
  (dss_cons (ds_ret (xbf (bf_srtA hr.units rfl) rfl (F.free 31 rfl) (acons (xv 3) da_nil)))
  dss_nil)))
theorem R_live_bodies (F : Fx hk w K mg base) : FnR P w K mg base (G K) (He.ga K "live_bodies") ["program", "choice", "lot"] 4 [] phi_live_bodies := by
  obtain ⟨fd, D⟩ := F.def_ (d := d_live_bodies) 73 rfl
  exact ⟨fd, [], D.kp, .nil, (D.bindsN (fun kV doc pm an cdv ct us hl => (by rcases us with _ | ⟨_, _ | ⟨_, _ | ⟨_, _ | ⟨_, us⟩⟩⟩⟩ <;> first | (cases hl; done) | rfl))), C_live_bodies F D⟩
abbrev N_judged : List Str := ["program", "choice", "wish", "found", "lot", "bodies", "uses", "rows", "use"]
theorem S_judged : FnScope N_judged ["program", "choice", "wish"] d_judged.scope := ⟨rfl, rfl, rfl, by decide +kernel, rfl, by decide +kernel, by decide +kernel⟩
theorem C_judged (F : Fx hk w K mg base) {fd : FuncData} (D : FunD K d_judged.name d_judged.qual d_judged.params d_judged.body d_judged.scope (d_judged.dvs K) (d_judged.kws K) (He.ga K "judged") fd) : FnOk P w K mg base (L2.CX P w) 8 (He.ga K "judged") fd ["program", "choice", "wish"] (spP w K (G K) 3 phi_judged) :=
  fn_ok (N := N_judged) (sv := ev_judged) D S_judged (fun _ _ e => e) fun cdv A outer s H E hcd hr tk ps => (dss_cons (sset 3 S_judged.nd de_dct0)
  (dss_cons (sfor ps (di_any (xcall tk (R_lots_of F) (hr.mono (by decide)) (F.glo 83 rfl) (acons (xv 0) da_nil))) (gname 4 S_judged.nd) (dss_cons (sset 5 S_judged.nd (xcall tk (R_live_bodies F) (hr.mono (by decide)) (F.glo 90 rfl) (acons (xv 0) (acons (xv 1) (acons (xv 4) da_nil)))))
  (dss_cons (sset 6 S_judged.nd (xcall tk (R_breaking F) (hr.mono (by decide)) (F.glo 80 rfl) (acons (xv 0) (acons (xv 1) (acons (xv 4) (acons (xv 2) (acons (xv 5) da_nil)))))))
  (dss_cons (ds_if (tisnot (xv 6) xnon) (dss_cons (sset 7 S_judged.nd (xcall tk (R_rows_to F) (hr.mono (by decide)) (F.glo 89 rfl) (acons (xv 0) (acons (xv 1) (acons (xv 4) da_nil)))))
  (dss_cons (ds_ret (xmake tk (R_Fails_init F) (hr.mono (by decide)) (F.glo 87 rfl) (acons (xv 4) (acons (xty (bf_tupA rfl) rfl (F.free 11 rfl) (acons (de_lc kpV_ok rfl S_judged.nd (di_any (xv 6)) (blkOk_by (own := [("use", 8)]) (by kernel_rfl)) (by decide) (fun _ _ _ _ _ => (gname 8 S_judged.nd)) (fun _ _ _ _ _ => dts_nil) (fun _ _ _ _ _ => (xcall MP.takes0 (R_way_to F) (hr.mono (by decide)) (F.glo 88 rfl) (acons (xv 0) (acons (xv 7) (acons (xv 8) da_nil))))) (by intro _; rfl)) da_nil)) da_nil))))
  dss_nil)) dss_nil)
  (dss_cons (sput hr (xty (bf_tupA rfl) rfl (F.free 11 rfl) (acons (xv 5) da_nil)) (xv 3) (xv 4))
  dss_nil)))))
  (dss_cons (ds_ret (xmake tk (R_Holds_init F) (hr.mono (by decide)) (F.glo 70 rfl) (acons (xv 3) da_nil)))
  dss_nil)))
theorem R_judged (F : Fx hk w K mg base) : FnR P w K mg base (G K) (He.ga K "judged") ["program", "choice", "wish"] 8 [] phi_judged := by
  obtain ⟨fd, D⟩ := F.def_ (d := d_judged) 74 rfl
  exact ⟨fd, [], D.kp, .nil, (D.bindsN (fun kV doc pm an cdv ct us hl => (by rcases us with _ | ⟨_, _ | ⟨_, _ | ⟨_, _ | ⟨_, us⟩⟩⟩⟩ <;> first | (cases hl; done) | rfl))), C_judged F D⟩
abbrev N_judge : List Str := ["program", "choice", "wish"]
theorem S_judge : FnScope N_judge ["program", "choice", "wish"] d_judge.scope := ⟨rfl, rfl, rfl, by decide +kernel, rfl, by decide +kernel, by decide +kernel⟩
theorem C_judge (F : Fx hk w K mg base) {fd : FuncData} (D : FunD K d_judge.name d_judge.qual d_judge.params d_judge.body d_judge.scope (d_judge.dvs K) (d_judge.kws K) (He.ga K "judge") fd) : FnOk P w K mg base (L2.CX P w) 9 (He.ga K "judge") fd ["program", "choice", "wish"] (spP w K (G K) 3 phi_judge) :=
  fn_ok (N := N_judge) (sv := ev_judge) D S_judge (fun _ _ e => e) fun cdv A outer s H E hcd hr tk ps => (dss_cons (sexpr (xcall tk (R_check_wish_judging F) (hr.mono (by decide)) (F.glo 84 rfl) (acons (xv 0) (acons (xv 1) (acons (xv 2) da_nil)))))
  (dss_cons (ds_ret (xcall tk (R_judged F) (hr.mono (by decide)) (F.glo 91 rfl) (acons (xv 0) (acons (xv 1) (acons (xv 2) da_nil)))))
  dss_nil))
theorem R_judge (F : Fx hk w K mg base) : FnR P w K mg base (G K) (He.ga K "judge") ["program", "choice", "wish"] 9 [] phi_judge := by
  obtain ⟨fd, D⟩ := F.def_ (d := d_judge) 75 rfl
  exact ⟨fd, [], D.kp, .nil, (D.bindsN (fun kV doc pm an cdv ct us hl => (by rcases us with _ | ⟨_, _ | ⟨_, _ | ⟨_, _ | ⟨_, us⟩⟩⟩⟩ <;> first | (cases hl; done) | rfl))), C_judge F D⟩
abbrev N_does_hold : List Str := ["program", "choice", "wish"]
theorem S_does_hold : FnScope N_does_hold ["program", "choice", "wish"] d_does_hold.scope := ⟨rfl, rfl, rfl, by decide +kernel, rfl, by decide +kernel, by decide +kernel⟩
theorem C_does_hold (F : Fx hk w K mg base) {fd : FuncData} (D : FunD K d_does_hold.name d_does_hold.qual d_does_hold.params d_does_hold.body d_does_hold.scope (d_does_hold.dvs K) (d_does_hold.kws K) (He.ga K "does_hold") fd) : FnOk P w K mg base (L2.CX P w) 10 (He.ga K "does_hold") fd ["program", "choice", "wish"] (spP w K (G K) 3 phi_does_hold) :=
  fn_ok (N := N_does_hold) (sv := ev_does_hold) D S_does_hold (fun _ _ e => e) fun cdv A outer s H E hcd hr tk ps => (dss_cons (ds_ret (xisiO (isaO_ok (C := "Holds") (own := owns) (fun _ => rfl) (F.ex 25 rfl)) (F.free 1 rfl) (F.glo 70 rfl) (xcall tk (R_judge F) (hr.mono (by decide)) (F.glo 92 rfl) (acons (xv 0) (acons (xv 1) (acons (xv 2) da_nil))))))
  dss_nil)
theorem R_does_hold (F : Fx hk w K mg base) : FnR P w K mg base (G K) (He.ga K "does_hold") ["program", "choice", "wish"] 10 [] phi_does_hold := by
  obtain ⟨fd, D⟩ := F.def_ (d := d_does_hold) 76 rfl
  exact ⟨fd, [], D.kp, .nil, (D.bindsN (fun kV doc pm an cdv ct us hl => (by rcases us with _ | ⟨_, _ | ⟨_, _ | ⟨_, _ | ⟨_, us⟩⟩⟩⟩ <;> first | (cases hl; done) | rfl))), C_does_hold F D⟩
abbrev N_least_lot : List Str := ["program", "choice", "wish", "found"]
theorem S_least_lot : FnScope N_least_lot ["program", "choice", "wish"] d_least_lot.scope := ⟨rfl, rfl, rfl, by decide +kernel, rfl, by decide +kernel, by decide +kernel⟩
theorem C_least_lot (F : Fx hk w K mg base) {fd : FuncData} (D : FunD K d_least_lot.name d_least_lot.qual d_least_lot.params d_least_lot.body d_least_lot.scope (d_least_lot.dvs K) (d_least_lot.kws K) (He.ga K "least_lot") fd) : FnOk P w K mg base (L2.CX P w) 10 (He.ga K "least_lot") fd ["program", "choice", "wish"] (spP w K (G K) 3 phi_least_lot) :=
  fn_ok (N := N_least_lot) (sv := ev_least_lot) D S_least_lot (fun _ _ e => e) fun cdv A outer s H E hcd hr tk ps => (dss_cons (sset 3 S_least_lot.nd (xcall tk (R_judge F) (hr.mono (by decide)) (F.glo 92 rfl) (acons (xv 0) (acons (xv 1) (acons (xv 2) da_nil)))))
  (dss_cons (ds_ret (de_ite (tval (xisiO (isaO_ok (C := "Fails") (own := owns) (fun _ => rfl) (F.ex 26 rfl)) (F.free 1 rfl) (F.glo 87 rfl) (xv 3))) (xfld (fldOk F (by decide)) (xv 3)) xnon))
  dss_nil))
theorem R_least_lot (F : Fx hk w K mg base) : FnR P w K mg base (G K) (He.ga K "least_lot") ["program", "choice", "wish"] 10 [] phi_least_lot := by
  obtain ⟨fd, D⟩ := F.def_ (d := d_least_lot) 77 rfl
  exact ⟨fd, [], D.kp, .nil, (D.bindsN (fun kV doc pm an cdv ct us hl => (by rcases us with _ | ⟨_, _ | ⟨_, _ | ⟨_, _ | ⟨_, us⟩⟩⟩⟩ <;> first | (cases hl; done) | rfl))), C_least_lot F D⟩
abbrev N_meet : List Str := ["program", "choice", "lot", "use"]
theorem S_meet : FnScope N_meet ["program", "choice", "lot", "use"] d_meet.scope := ⟨rfl, rfl, rfl, by decide +kernel, rfl, by decide +kernel, by decide +kernel⟩
theorem C_meet (F : Fx hk w K mg base) {fd : FuncData} (D : FunD K d_meet.name d_meet.qual d_meet.params d_meet.body d_meet.scope (d_meet.dvs K) (d_meet.kws K) (He.ga K "meet") fd) : FnOk P w K mg base (L2.CX P w) 6 (He.ga K "meet") fd ["program", "choice", "lot", "use"] (spP w K (G K) 4 phi_meet) :=
  fn_ok (N := N_meet) (sv := ev_meet) D S_meet (fun _ _ e => e) fun cdv A outer s H E hcd hr tk ps => (dss_cons (sexpr (xcall tk (R_check_choice F) (hr.mono (by decide)) (F.glo 28 rfl) (acons (xv 0) (acons (xv 1) da_nil))))
  (dss_cons (sexpr (xcall tk (R_check_lot F) (hr.mono (by decide)) (F.glo 15 rfl) (acons (xv 0) (acons (xv 2) da_nil))))
  (dss_cons (ds_if (dt_not (tval (xcall tk (R_is_use F) (hr.mono (by decide)) (F.glo 85 rfl) (acons (xv 0) (acons (xv 3) da_nil))))) (dss_cons (sraise tk (F.fact 95 rfl) rfl (F.glo 96 rfl) xstr)
  dss_nil) dss_nil)
  (dss_cons (ds_ret (xcallN tk (RN_met F) (hr.mono (by decide)) (F.glo 33 rfl) (acons (xv 0) (acons (xv 1) (acons (xv 2) (acons (xv 3) da_nil))))))
  dss_nil))))
theorem R_meet (F : Fx hk w K mg base) : FnR P w K mg base (G K) (He.ga K "meet") ["program", "choice", "lot", "use"] 6 [] phi_meet := by
  obtain ⟨fd, D⟩ := F.def_ (d := d_meet) 78 rfl
  exact ⟨fd, [], D.kp, .nil, (D.bindsN (fun kV doc pm an cdv ct us hl => (by rcases us with _ | ⟨_, _ | ⟨_, _ | ⟨_, _ | ⟨_, _ | ⟨_, us⟩⟩⟩⟩⟩ <;> first | (cases hl; done) | rfl))), C_meet F D⟩
abbrev N_live : List Str := ["program", "choice", "lot"]
theorem S_live : FnScope N_live ["program", "choice", "lot"] d_live.scope := ⟨rfl, rfl, rfl, by decide +kernel, rfl, by decide +kernel, by decide +kernel⟩
theorem C_live (F : Fx hk w K mg base) {fd : FuncData} (D : FunD K d_live.name d_live.qual d_live.params d_live.body d_live.scope (d_live.dvs K) (d_live.kws K) (He.ga K "live") fd) : FnOk P w K mg base (L2.CX P w) 6 (He.ga K "live") fd ["program", "choice", "lot"] (spP w K (G K) 3 phi_live) :=
  fn_ok (N := N_live) (sv := ev_live) D S_live (fun _ _ e => e) fun cdv A outer s H E hcd hr tk ps => (dss_cons (sexpr (xcall tk (R_check_choice F) (hr.mono (by decide)) (F.glo 28 rfl) (acons (xv 0) (acons (xv 1) da_nil))))
  (dss_cons (sexpr (xcall tk (R_check_lot F) (hr.mono (by decide)) (F.glo 15 rfl) (acons (xv 0) (acons (xv 2) da_nil))))
  (dss_cons (ds_ret (xcall tk (R_live_bodies F) (hr.mono (by decide)) (F.glo 90 rfl) (acons (xv 0) (acons (xv 1) (acons (xv 2) da_nil)))))
  dss_nil)))
theorem R_live (F : Fx hk w K mg base) : FnR P w K mg base (G K) (He.ga K "live") ["program", "choice", "lot"] 6 [] phi_live := by
  obtain ⟨fd, D⟩ := F.def_ (d := d_live) 79 rfl
  exact ⟨fd, [], D.kp, .nil, (D.bindsN (fun kV doc pm an cdv ct us hl => (by rcases us with _ | ⟨_, _ | ⟨_, _ | ⟨_, _ | ⟨_, us⟩⟩⟩⟩ <;> first | (cases hl; done) | rfl))), C_live F D⟩
abbrev N_table : List Str := ["program", "choice", "lot", "some", "found", "use", "places", "one", "place"]
theorem S_table : FnScope N_table ["program", "choice", "lot"] d_table.scope := ⟨rfl, rfl, rfl, by decide +kernel, rfl, by decide +kernel, by decide +kernel⟩
theorem C_table (F : Fx hk w K mg base) {fd : FuncData} (D : FunD K d_table.name d_table.qual d_table.params d_table.body d_table.scope (d_table.dvs K) (d_table.kws K) (He.ga K "table") fd) : FnOk P w K mg base (L2.CX P w) 7 (He.ga K "table") fd ["program", "choice", "lot"] (spP w K (G K) 3 phi_table) :=
  fn_ok (N := N_table) (sv := ev_table) D S_table (fun _ _ e => e) fun cdv A outer s H E hcd hr tk ps => (dss_cons (sexpr (xcall tk (R_check_choice F) (hr.mono (by decide)) (F.glo 28 rfl) (acons (xv 0) (acons (xv 1) da_nil))))
  (dss_cons (ds_if (tisnot (xv 2) xnon) (dss_cons (sexpr (xcall tk (R_check_lot F) (hr.mono (by decide)) (F.glo 15 rfl) (acons (xv 0) (acons (xv 2) da_nil))))
  dss_nil) dss_nil)
  (dss_cons (sset 3 S_table.nd (de_ite (tis (xv 2) xnon) (xcall tk (R_lots_of F) (hr.mono (by decide)) (F.glo 83 rfl) (acons (xv 0) da_nil)) (de_lst (acons (xv 2) da_nil))))
  (dss_cons (sset 4 S_table.nd de_dct0)
  (dss_cons (sfor ps (di_any (xmeth0 (k := 1) tk (hr.mono (by decide)) (tab1 (MtR.mok (R_Program_uses F) (by decide))) (xv 0))) (gname 5 S_table.nd) (dss_cons (by first | exact sset 6 S_table.nd (xdc hr S_table.nd (di_any (xv 3)) (blkOk_by (own := [("one", 7)]) (by kernel_rfl)) (fun _ _ _ _ _ => (gname 7 S_table.nd)) (fun _ _ _ _ _ => dts_nil) (fun _ _ _ _ _ => (xcallN MP.takes0 (RN_met F) (hr.mono (by decide)) (F.glo 33 rfl) (acons (xv 0) (acons (xv 1) (acons (xv 7) (acons (xv 5) da_nil)))))) (fun _ _ _ _ _ => xtrue)) | exact ssetDc (i := 6) hr S_table.nd (di_any (xv 3)) (blkOk_by (own := [("one", 7)]) (by kernel_rfl)) (fun _ _ _ _ _ => (gname 7 S_table.nd)) (fun _ _ _ _ _ => dts_nil) (fun _ _ _ _ _ => (xcallN MP.takes0 (RN_met F) (hr.mono (by decide)) (F.glo 33 rfl) (acons (xv 0) (acons (xv 1) (acons (xv 7) (acons (xv 5) da_nil)))))) (fun _ _ _ _ _ => xtrue))
  (dss_cons (sput hr (xbf (bf_srtA hr.units rfl) rfl (F.free 31 rfl) (acons (de_lc kpV_ok rfl S_table.nd (di_any (xv 6)) (blkOk_by (own := [("place", 8)]) (by kernel_rfl)) (by decide) (fun _ _ _ _ _ => (gname 8 S_table.nd)) (fun _ _ _ _ _ => (dts_one (tisnot (xv 8) xnon))) (fun _ _ _ _ _ => (xv 8)) (by intro _; rfl)) da_nil)) (xv 4) (xv 5))
  dss_nil)))
  (dss_cons (ds_ret (xv 4))
  dss_nil))))))
theorem RN_table (F : Fx hk w K mg base) : FnR P w K mg base (G K) (He.ga K "table") ["program", "choice", "lot"] 7 [.non] phi_table := by
  obtain ⟨fd, D⟩ := F.def_ (d := d_table) 80 rfl
  obtain ⟨ds, hv, hb⟩ := D.binds0 (ps := ["program", "choice", "lot"]) 2 (by exact fun z => nomatch z) rfl (fun T doc pm an cdv ct us its hl h2 => (by rcases us with _ | ⟨_, _ | ⟨_, _ | ⟨_, us⟩⟩⟩ <;> first | (cases hl; done) | (rcases its with _ | ⟨_, _ | ⟨_, its⟩⟩ <;> first | (cases h2; done) | exact ⟨_, _, _, _, _, _, rfl, rfl, rfl⟩)))
  exact ⟨fd, ds, D.kp, hv, hb, C_table F D⟩
theorem RK_table (F : Fx hk w K mg base) : FnRK P w K mg base (G K) (He.ga K "table") ["program", "choice", "lot"] 2 ["lot"] 7 phi_table := by
  obtain ⟨fd, D⟩ := F.def_ (d := d_table) 80 rfl
  obtain ⟨mv, hb⟩ := D.kbinds0 (ps := ["program", "choice", "lot"]) 2 ["lot"] [] (fun us mv ws => us ++ ws) (by exact fun z => nomatch z) (fun _ z => nomatch z) (fun a b c => a.append c) (fun T doc pm an cdv ct us mv its hl h3 h2 => by
    cases mv with
    | cons _ _ => cases h3
    | nil => exact (by rcases us with _ | ⟨_, _ | ⟨_, _ | ⟨_, us⟩⟩⟩ <;> first | (cases hl; done) | (rcases its with _ | ⟨_, _ | ⟨_, its⟩⟩ <;> first | (cases h2; done) | rfl)))
  exact ⟨fd, D.kp, hb, C_table F D⟩
abbrev N_lots : List Str := ["program"]
theorem S_lots : FnScope N_lots ["program"] d_lots.scope := ⟨rfl, rfl, rfl, by decide +kernel, rfl, by decide +kernel, by decide +kernel⟩
theorem C_lots (F : Fx hk w K mg base) {fd : FuncData} (D : FunD K d_lots.name d_lots.qual d_lots.params d_lots.body d_lots.scope (d_lots.dvs K) (d_lots.kws K) (He.ga K "lots") fd) : FnOk P w K mg base (L2.CX P w) 7 (He.ga K "lots") fd ["program"] (spP w K (G K) 1 phi_lots) :=
  fn_ok (N := N_lots) (sv := ev_lots) D S_lots (fun _ _ e => e) fun cdv A outer s H E hcd hr tk ps => (dss_cons (sexpr (xcall tk (R_check_program F) (hr.mono (by decide)) (F.glo 27 rfl) (acons (xv 0) da_nil)))
  (dss_cons (ds_ret (xcall tk (R_lots_of F) (hr.mono (by decide)) (F.glo 83 rfl) (acons (xv 0) da_nil)))
  dss_nil))
theorem R_lots (F : Fx hk w K mg base) : FnR P w K mg base (G K) (He.ga K "lots") ["program"] 7 [] phi_lots := by
  obtain ⟨fd, D⟩ := F.def_ (d := d_lots) 81 rfl
  exact ⟨fd, [], D.kp, .nil, (D.bindsN (fun kV doc pm an cdv ct us hl => (by rcases us with _ | ⟨_, _ | ⟨_, us⟩⟩ <;> first | (cases hl; done) | rfl))), C_lots F D⟩
end
end MPK36
set_option Elab.async false
set_option linter.all false
set_option maxRecDepth 100000
set_option maxHeartbeats 1000000
namespace MPK36
open PySem PySem.Spec PyProof.Rows L2 MP
section
variable {w : World} {K : PySem.W.Frag} {mg : Str → Option Value} {base : Heap}
abbrev N_shortenings_of : List Str := ["program", "found", "word", "module", "one", "name"]
theorem S_shortenings_of : FnScope N_shortenings_of ["program"] d_shortenings_of.scope := ⟨rfl, rfl, rfl, by decide +kernel, rfl, by decide +kernel, by decide +kernel⟩
theorem C_shortenings_of (F : Fx hk w K mg base) {fd : FuncData} (D : FunD K d_shortenings_of.name d_shortenings_of.qual d_shortenings_of.params d_shortenings_of.body d_shortenings_of.scope (d_shortenings_of.dvs K) (d_shortenings_of.kws K) (He.ga K "shortenings_of") fd) : FnOk P w K mg base (L2.CX P w) 4 (He.ga K "shortenings_of") fd ["program"] (spP w K (G K) 1 phi_shortenings_of) :=
  fn_ok (N := N_shortenings_of) (sv := ev_shortenings_of) D S_shortenings_of (fun _ _ e => e) fun cdv A outer s H E hcd hr tk ps => (dss_cons (sset 1 S_shortenings_of.nd (de_lstM da_nil))
  (dss_cons (sfor ps (di_any (de_tup (acons xstr (acons xstr (acons xstr da_nil))))) (gname 2 S_shortenings_of.nd) (dss_cons (sfor ps (irange1 (F.free 20 rfl) (acons (xbf (lenT (k := 1) (hr.mono (by decide)) (tabL1 (R_Program_len F))) rfl (F.free 10 rfl) (acons (xprop (R_Program_modules F) (hr.mono (by decide)) (xv 0)) da_nil)) da_nil)) (gname 3 S_shortenings_of.nd) (dss_cons (sexpr (xmt pa_list sl_extend rfl mt_ext (xv 1) (acons (de_lc kpV_ok rfl S_shortenings_of.nd (irange1 (F.free 20 rfl) (acons (xbf (lenT (k := 1) (hr.mono (by decide)) (tabL1 (R_Program_len F))) rfl (F.free 10 rfl) (acons (xv 0) da_nil)) da_nil)) (blkOk_by (own := [("name", 5)]) (by kernel_rfl)) (by decide) (fun _ _ _ _ _ => (gname 5 S_shortenings_of.nd)) (fun _ _ _ _ _ => dts_nil) (fun _ _ _ _ _ => (de_tup (acons (xv 2) (acons (xv 3) (acons (xv 5) da_nil))))) (by intro _; rfl)) da_nil)))
  dss_nil))
  dss_nil))
  (dss_cons (ds_ret (de_lc kpV_ok rfl S_shortenings_of.nd (di_any (xv 1)) (blkOk_by (own := [("one", 4)]) (by kernel_rfl)) (by decide) (fun _ _ _ _ _ => (gname 4 S_shortenings_of.nd)) (fun _ _ _ _ _ => (dts_one (tval (xcall MP.takes0 (R_can_shorten F) (hr.mono (by decide)) (F.glo 21 rfl) (acons (xv 0) (acons (xv 4) da_nil)))))) (fun _ _ _ _ _ => (xv 4)) (by intro _; rfl)))
  dss_nil)))
theorem R_shortenings_of (F : Fx hk w K mg base) : FnR P w K mg base (G K) (He.ga K "shortenings_of") ["program"] 4 [] phi_shortenings_of := by
  obtain ⟨fd, D⟩ := F.def_ (d := d_shortenings_of) 82 rfl
  exact ⟨fd, [], D.kp, .nil, (D.bindsN (fun kV doc pm an cdv ct us hl => (by rcases us with _ | ⟨_, _ | ⟨_, us⟩⟩ <;> first | (cases hl; done) | rfl))), C_shortenings_of F D⟩
abbrev N_shortenings : List Str := ["program"]
theorem S_shortenings : FnScope N_shortenings ["program"] d_shortenings.scope := ⟨rfl, rfl, rfl, by decide +kernel, rfl, by decide +kernel, by decide +kernel⟩
theorem C_shortenings (F : Fx hk w K mg base) {fd : FuncData} (D : FunD K d_shortenings.name d_shortenings.qual d_shortenings.params d_shortenings.body d_shortenings.scope (d_shortenings.dvs K) (d_shortenings.kws K) (He.ga K "shortenings") fd) : FnOk P w K mg base (L2.CX P w) 5 (He.ga K "shortenings") fd ["program"] (spP w K (G K) 1 phi_shortenings) :=
  fn_ok (N := N_shortenings) (sv := ev_shortenings) D S_shortenings (fun _ _ e => e) fun cdv A outer s H E hcd hr tk ps => (dss_cons (sexpr (xcall tk (R_check_program F) (hr.mono (by decide)) (F.glo 27 rfl) (acons (xv 0) da_nil)))
  (dss_cons (ds_ret (xcall tk (R_shortenings_of F) (hr.mono (by decide)) (F.glo 101 rfl) (acons (xv 0) da_nil)))
  dss_nil))
theorem R_shortenings (F : Fx hk w K mg base) : FnR P w K mg base (G K) (He.ga K "shortenings") ["program"] 5 [] phi_shortenings := by
  obtain ⟨fd, D⟩ := F.def_ (d := d_shortenings) 83 rfl
  exact ⟨fd, [], D.kp, .nil, (D.bindsN (fun kV doc pm an cdv ct us hl => (by rcases us with _ | ⟨_, _ | ⟨_, us⟩⟩ <;> first | (cases hl; done) | rfl))), C_shortenings F D⟩
abbrev N__law_asked : List Str := ["_law_name", "_law_a", "_law_b", "_law_c", "_law_d"]
theorem S__law_asked : FnScope N__law_asked ["_law_name", "_law_a", "_law_b", "_law_c", "_law_d"] d__law_asked.scope := ⟨rfl, rfl, rfl, by decide +kernel, rfl, by decide +kernel, by decide +kernel⟩
theorem C__law_asked (F : Fx hk w K mg base) {fd : FuncData} (D : FunD K d__law_asked.name d__law_asked.qual d__law_asked.params d__law_asked.body d__law_asked.scope (d__law_asked.dvs K) (d__law_asked.kws K) (He.ga K "_law_asked") fd) : FnOk P w K mg base (L2.CX P w) 13 (He.ga K "_law_asked") fd ["_law_name", "_law_a", "_law_b", "_law_c", "_law_d"] (spP w K (G K) 5 phi__law_asked) :=
  fn_ok (N := N__law_asked) (sv := ev__law_asked) D S__law_asked (fun _ _ e => e) fun cdv A outer s H E hcd hr tk ps => (dss_cons (ds_if (tin hr (xv 0) (de_tup (acons xstr (acons xstr da_nil)))) (dss_cons (ds_ret (de_ite (teq hr (xv 0) xstr) (xcall tk (R_lots F) (hr.mono (by decide)) (F.glo 100 rfl) (acons (xv 1) da_nil)) (xcall tk (R_shortenings F) (hr.mono (by decide)) (F.glo 102 rfl) (acons (xv 1) da_nil))))
  dss_nil) dss_nil)
  (dss_cons (ds_if (tin hr (xv 0) (de_tup (acons xstr (acons xstr da_nil)))) (dss_cons (ds_ret (de_ite (teq hr (xv 0) xstr) (xcall tk (R_live F) (hr.mono (by decide)) (F.glo 98 rfl) (acons (xv 1) (acons (xv 2) (acons (xv 3) da_nil)))) (xcallK tk (RK_table F) (hr.mono (by decide)) (F.glo 99 rfl) (acons (xv 1) (acons (xv 2) da_nil)) (dk_cons (xv 3) dk_nil))))
  dss_nil) dss_nil)
  (dss_cons (ds_if (tin hr (xv 0) (de_tup (acons xstr (acons xstr da_nil)))) (dss_cons (ds_ret (de_ite (teq hr (xv 0) xstr) (xcall tk (R_meet F) (hr.mono (by decide)) (F.glo 97 rfl) (acons (xv 1) (acons (xv 2) (acons (xv 3) (acons (xv 4) da_nil))))) (xmake tk (R_Loader_init F) (hr.mono (by decide)) (F.glo 29 rfl) (acons (xv 1) (acons (xv 2) (acons (xv 3) (acons (xv 4) da_nil)))))))
  dss_nil) dss_nil)
  (dss_cons (ds_if (tin hr (xv 0) (de_tup (acons xstr (acons xstr (acons xstr da_nil))))) (dss_cons (ds_ret (de_ite (teq hr (xv 0) xstr) (xcall tk (R_judge F) (hr.mono (by decide)) (F.glo 92 rfl) (acons (xv 1) (acons (xv 2) (acons (xv 3) da_nil)))) (de_ite (teq hr (xv 0) xstr) (xcall tk (R_does_hold F) (hr.mono (by decide)) (F.glo 93 rfl) (acons (xv 1) (acons (xv 2) (acons (xv 3) da_nil)))) (xcall tk (R_least_lot F) (hr.mono (by decide)) (F.glo 94 rfl) (acons (xv 1) (acons (xv 2) (acons (xv 3) da_nil)))))))
  dss_nil) dss_nil)
  (dss_cons (ds_if (tin hr (xv 0) (de_tup (acons xstr (acons xstr da_nil)))) (dss_cons (ds_ret (de_ite (teq hr (xv 0) xstr) (xmeth (k := 9) tk (hr.mono (by decide)) (tabC (MtR.mok (R_Holds_shows F) (by decide)) (tab1 (MtR.mok (R_Fails_shows F) (by decide)))) (xmake tk (R_Holds_init F) (hr.mono (by decide)) (F.glo 70 rfl) (acons de_dct0 da_nil)) (acons (xv 1) (acons (xv 2) (acons (xv 3) da_nil)))) (xmeth (k := 9) tk (hr.mono (by decide)) (tabC (MtR.mok (R_Holds_shows F) (by decide)) (tab1 (MtR.mok (R_Fails_shows F) (by decide)))) (xmake tk (R_Fails_init F) (hr.mono (by decide)) (F.glo 87 rfl) (acons (de_tup da_nil) (acons (de_tup da_nil) da_nil))) (acons (xv 1) (acons (xv 2) (acons (xv 3) da_nil))))))
  dss_nil) dss_nil)
  (dss_cons (ds_if (tin hr (xv 0) (de_tup (acons xstr (acons xstr da_nil)))) (dss_cons (ds_ret (de_ite (teq hr (xv 0) xstr) (xixO tk (hr.mono (by decide)) (ixT1 rfl (R_Program_getitem F) (F.ex 16 rfl)) (xv 1) (xv 2)) (xmeth (k := 8) tk (hr.mono (by decide)) (tab1 (MtR.mok (R_Program_with_show F) (by decide))) (xv 1) (acons (xv 2) (acons (xv 3) (acons (xv 4) da_nil))))))
  dss_nil) dss_nil)
  (dss_cons (ds_ret (xcall tk (R__law_loaders F) (hr.mono (by decide)) (F.glo 63 rfl) (acons (xv 0) (acons (xv 1) (acons (xv 2) da_nil)))))
  dss_nil)))))))
theorem R__law_asked (F : Fx hk w K mg base) : FnR P w K mg base (G K) (He.ga K "_law_asked") ["_law_name", "_law_a", "_law_b", "_law_c", "_law_d"] 13 [] phi__law_asked := by
  obtain ⟨fd, D⟩ := F.def_ (d := d__law_asked) 84 rfl
  exact ⟨fd, [], D.kp, .nil, (D.bindsN (fun kV doc pm an cdv ct us hl => (by rcases us with _ | ⟨_, _ | ⟨_, _ | ⟨_, _ | ⟨_, _ | ⟨_, _ | ⟨_, us⟩⟩⟩⟩⟩⟩ <;> first | (cases hl; done) | rfl))), C__law_asked F D⟩
abbrev N__law_refused : List Str := ["_law_row", "error"]
theorem S__law_refused : FnScope N__law_refused ["_law_row"] d__law_refused.scope := ⟨rfl, rfl, rfl, by decide +kernel, rfl, by decide +kernel, by decide +kernel⟩
theorem C__law_refused (F : Fx hk w K mg base) {fd : FuncData} (D : FunD K d__law_refused.name d__law_refused.qual d__law_refused.params d__law_refused.body d__law_refused.scope (d__law_refused.dvs K) (d__law_refused.kws K) (He.ga K "_law_refused") fd) : FnOk P w K mg base (L2.CX P w) 14 (He.ga K "_law_refused") fd ["_law_row"] (spP w K (G K) 1 phi__law_refused) :=
  fn_ok (N := N__law_refused) (sv := ev__law_refused) D S__law_refused (fun _ _ e => e) fun cdv A outer s H E hcd hr tk ps => (dss_cons (ds_try S__law_refused.nd tk (isxL_ok (fun _ => rfl) (F.ex 29 rfl)) (fun W pn xe tk ps => (dss_cons (sexpr (xcall tk (R__law_asked F) (hr.mono (by decide)) (F.glo 103 rfl) (acons (xix hr (xv 0) xint) (acons (xix hr (xv 0) xint) (acons (xix hr (xv 0) xint) (acons (xix hr (xv 0) xint) (acons (xix hr (xv 0) xint) da_nil)))))))
  dss_nil)) (hret2 (y := "BadProgram") (i := 1) S__law_refused.nd (F.glo 26 rfl) (xfB_ok (F.ex 27 rfl)) (of_decide_eq_true (F.ex 28 rfl)) (hcons (y := "BadName") (F.glo 18 rfl) (fun a oe pn => (dss_cons (ds_ret xstr)
  dss_nil)) (hcons (y := "BadChoice") (F.glo 24 rfl) (fun a oe pn => (dss_cons (ds_ret xstr)
  dss_nil)) (hcons (y := "BadLot") (F.glo 14 rfl) (fun a oe pn => (dss_cons (ds_ret xstr)
  dss_nil)) (hcons (y := "BadUse") (F.glo 96 rfl) (fun a oe pn => (dss_cons (ds_ret xstr)
  dss_nil)) (hcons (y := "BadWish") (F.glo 51 rfl) (fun a oe pn => (dss_cons (ds_ret xstr)
  dss_nil)) (hcons (y := "BadMode") (F.glo 5 rfl) (fun a oe pn => (dss_cons (ds_ret xstr)
  dss_nil)) .nil))))))))
  (dss_cons (ds_ret xstr)
  dss_nil))
theorem R__law_refused (F : Fx hk w K mg base) : FnR P w K mg base (G K) (He.ga K "_law_refused") ["_law_row"] 14 [] phi__law_refused := by
  obtain ⟨fd, D⟩ := F.def_ (d := d__law_refused) 85 rfl
  exact ⟨fd, [], D.kp, .nil, (D.bindsN (fun kV doc pm an cdv ct us hl => (by rcases us with _ | ⟨_, _ | ⟨_, us⟩⟩ <;> first | (cases hl; done) | rfl))), C__law_refused F D⟩
abbrev N_law : List Str := ["_law_script", "_law_program", "_law_row"]
theorem S_law : FnScope N_law ["_law_script"] d_law.scope := ⟨rfl, rfl, rfl, by decide +kernel, rfl, by decide +kernel, by decide +kernel⟩
theorem C_law (F : Fx hk w K mg base) {fd : FuncData} (D : FunD K d_law.name d_law.qual d_law.params d_law.body d_law.scope (d_law.dvs K) (d_law.kws K) (He.ga K "law") fd) : FnOk P w K mg base (L2.CX P w) 15 (He.ga K "law") fd ["_law_script"] (spP w K (G K) 1 phi_law) :=
  fn_ok (N := N_law) (sv := ev_law) D S_law (fun _ _ e => e) fun cdv A outer s H E hcd hr tk ps => (dss_cons (sset 1 S_law.nd (xmake tk (R_Program_init F) (hr.mono (by decide)) (F.glo 25 rfl) (acons (de_tup (acons xstr (acons xstr da_nil))) (acons (de_tup (acons (de_tup (acons (de_tup (acons xint (acons xstr (acons (de_tup (acons (de_tup (acons xstr (acons xint da_nil))) (acons (de_tup (acons xstr (acons xint da_nil))) da_nil))) da_nil)))) da_nil)) (acons (de_tup (acons (de_tup (acons xint (acons xstr (acons (de_tup da_nil) da_nil)))) da_nil)) da_nil))) da_nil))))
  (dss_cons (sfor ps (di_any (xadd (xcall tk (R__law_first F) (hr.mono (by decide)) (F.glo 0 rfl) (acons (xv 1) da_nil)) (xcall tk (R__law_second F) (hr.mono (by decide)) (F.glo 30 rfl) (acons (xv 1) da_nil)))) (gname 2 S_law.nd) (dss_cons (ds_if (tne hr (xcall tk (R__law_refused F) (hr.mono (by decide)) (F.glo 104 rfl) (acons (xv 2) da_nil)) (xix hr (xv 2) xint)) (dss_cons (ds_ret xfalse)
  dss_nil) dss_nil)
  dss_nil))
  (dss_cons (ds_ret xtrue)
  dss_nil)))
theorem R_law (F : Fx hk w K mg base) : FnR P w K mg base (G K) (He.ga K "law") ["_law_script"] 15 [] phi_law := by
  obtain ⟨fd, D⟩ := F.def_ (d := d_law) 86 rfl
  exact ⟨fd, [], D.kp, .nil, (D.bindsN (fun kV doc pm an cdv ct us hl => (by rcases us with _ | ⟨_, _ | ⟨_, us⟩⟩ <;> first | (cases hl; done) | rfl))), C_law F D⟩
end
end MPK36
set_option Elab.async false
set_option linter.all false
set_option maxRecDepth 100000
set_option maxHeartbeats 0
namespace MPK36
open PySem PySem.Spec PyProof.Rows L2 MP
def nm0 : List Str := ["__name__", "AheadError", "BadProgram", "BadName", "BadChoice", "BadLot", "BadUse", "BadWish", "BadMode", "BadHistory", "TooLarge", "MOST_NAMES", "MOST_MODULES", "MOST_USES", "SORTS", "SHOWS", "SORT_OF", "is_number", "is_word", "are_sorts", "can_use", "is_definition", "is_module", "are_modules", "Program", "uses_in", "outer_uses", "check_program", "AHEAD", "KEPT"]
def nm1 : List Str := ["can_shorten", "shortenings_of", "is_choice", "check_choice", "is_lot", "check_lot", "is_use", "copied_from", "source", "lots_of", "met", "live_bodies", "lots", "shortenings", "meet", "live", "table", "WISHES", "WORDS", "check_wish", "check_wish_judging", "is_bad", "open_place", "are_bad", "uses_of", "breaking", "rows_to", "way_to", "is_body", "are_closed"]
def nm2 : List Str := ["is_way", "Holds", "Fails", "judged", "judge", "does_hold", "least_lot", "MODES", "GONE", "MOST_STATES", "LOADER_WISHES", "Loader", "check_loader", "uses_there", "with_bound", "first_of", "deeds_in", "used", "done", "breaks", "is_deed", "walked", "check_history", "reach", "first_state", "state_after", "deeds", "gives", "all_states", "check_wish_loading"]
def nm3 : List Str := ["Steady", "Stale", "judge_loader", "soonest", "_law_loaders", "_law_asked", "_law_refused", "_law_first", "_law_second"]
def nms : List Str := nm0 ++ nm1 ++ nm2 ++ nm3
abbrev R : PySem.W.OpenRow := PySem.W.OpenLaw.row PySem.Challenge.rw_laidahead_k36_refused
abbrev LI : Nat := 105
def qv : Program := PySem.W.view R.prog [LI]
def ob (s : PySem.W.SharedT) : AlM := obsN hk (HandSHeadRun.getT s)
theorem ob_eq (s : PySem.W.SharedT) : ob s = (hookN hk).obs s.abs := obsN_eq (HandSHeadRun.getT_eq s)
theorem run_false (w : World) : HandSHeadRun.RunEq R qv (hookN hk) ob 9000 nms (w.withFollow "special-get-raises" false) := by
  intro os
  kernel_rfl
theorem run_true (w : World) : HandSHeadRun.RunEq R qv (hookN hk) ob 9000 nms (w.withFollow "special-get-raises" true) := by
  intro os
  kernel_rfl
theorem run (w : World) : HandSHeadRun.RunEq R qv (hookN hk) ob 9000 nms w := PySem.W.byRow2 "special-get-raises" run_false run_true w
end MPK36
set_option Elab.async false
set_option linter.all false
set_option maxRecDepth 100000
set_option maxHeartbeats 0
namespace MPK36
open PySem PySem.Spec PyProof.Rows L2 MP
theorem phi_ok (ns : List Int) : phi_law [.scr ns] = some (.ok (.bl true)) := by kernel_rfl
end MPK36
set_option Elab.async false
set_option linter.all false
set_option maxRecDepth 100000
set_option maxHeartbeats 0
namespace MPK36
open PySem PySem.Spec PyProof.Rows L2 MP
theorem atLaw {w : World} {K : PySem.W.Frag} {h : Heap} {mg : Str → Option Value} {fa : Addr} (hK : K.In h) (G0 : h.Ns mainGlobals mg) (says : SaysM hk w h K) (hmg : mg ("law" : Str) = some (.ref fa)) : LamX.LawAtS PySem.Challenge.rw_laidahead_k36_refused w K (L2.CX P w) 15 63 "_law_script" mg fa h := by
  obtain ⟨fd, D⟩ := says.def_ 86 (d := d_law) rfl
  have e := hmg.symm.trans (He.glo_ok hK G0 (says.fact 105 (f := .glo "law") rfl))
  cases e
  have b := FunD.bindsA (ps := ["_law_script"]) D fun kV doc pm an cdv ct us hl => by rcases us with _ | ⟨_, _ | ⟨_, us⟩⟩ <;> first | (cases hl; done) | rfl
  refine law_at (hk := hk) (Γ := G K) (φ := phi_law) hK says (fun p hp => ?_) (fun s u => b s [u] rfl) (fun ns _ _ => phi_ok ns) (fun base F => C_law F D)
  have z : p = _ := List.mem_singleton.mp hp
  exact ⟨("lots_of", none), tfm0, by rw [z]⟩
end MPK36
open PySem PySem.W PySem.Calls PyProof.Rows
theorem PySem.Challenge.cw_laidahead_k36_refused_holds : PySem.Challenge.rw_laidahead_k36_refused.Holds := by
  w_on; o_law
  refine HandSHeadRun.head_any (r := OpenLaw.row PySem.Challenge.rw_laidahead_k36_refused) (q := MPK36.qv) (H := MP.hookN MPK36.hk) (ob := MPK36.ob) (M := 9000) (loose := MPK36.nms) (d := HandSHeadRun.topDef (OpenLaw.row PySem.Challenge.rw_laidahead_k36_refused).prog MPK36.LI) (kwd := []) MPK36.ob_eq
    (by kernel_rfl) (fun s => by kernel_rfl) MPK36.run (by kernel_rfl) (by kernel_rfl) (by kernel_rfl) (by rfl) (by first | assumption | decide +kernel) (by decide +kernel) ⟨rfl, rfl, rfl, rfl, rfl, by decide +kernel⟩ ?hw ?hc
  case hw => w_witness2
  case hc =>
    refine LamX.walk_ofTsE (l := PySem.Challenge.rw_laidahead_k36_refused) (n := 63) (k := 15) (x := "_law_script") (CX := fun w => L2.CX MPK36.P w) rfl (by decide) (by kernel_rfl) ⟨rfl, by decide, by decide⟩ ?F ?CX
    case F =>
      intro w mg fa h Y G hmg0
      obtain ⟨K, KX, c⟩ := Y
      have hmg : mg ("law" : PySem.Str) = some (.ref fa) := by
        have e : (HandSHeadRun.topDef (OpenLaw.row PySem.Challenge.rw_laidahead_k36_refused).prog MPK36.LI).name = ("law" : PySem.Str) := by kernel_rfl
        rw [← e]
        exact hmg0
      exact ⟨K, KX, MPK36.atLaw KX G c hmg⟩
    case CX =>
      intro w H s e s1 z
      obtain ⟨a, B, H1, cls, d, e1, fl, hok, ub, na, os, ag, hE⟩ := z
      exact hE
