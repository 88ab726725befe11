import PyProof.Rows.All
import Wide.All
import OpenK.AllK
import Wide.FinOn
import HandS.ForMost
import HandS.ForExc
import HandS.Wide
import KE.KDictKeyed
import KE.KeyNested
import HandS.Lambda
import HandS.ExcCtx
import HandS.HotCalls
import HandS.ExcIs
import HandS.SuiteRaise
import HandS.Deep
import HandS.Rev
import HandS.RevTup
import HandS.Style
import HandS.TupAny
import HandS.TupMul
import HandS.TupLe
import HandS.Exc
import HandS.ExcOwn
import HandS.WordsExc
import HandS.Small
import HandS.Dict
import HandS.DictTup
import HandS.Iter
import HandS.Comp
import KE.GoesEnum
import KE.GoesMore
import HandS.IsInst
import HandS.SortKw
import HandS.AnyAll
import HandS.More
import HandS.WordsDict
import KE.DataMinMax
import KE.SortData
import HandS.Conv
import KE.KDictSum
import HandS.DictEq
import HandS.Defaults
import PyProof.SumWalkG
import PyProof.Rows.SumAny
import KE.KStateDown
import HandS.Head0
import HandS.Head1
import HandS.Head2
import HandS.HeadEnd
import HandS.HeadHook1
import HandS.HeadHook2
import HandS.HeadHook3
import HandS.HeadHook4
import HandS.HeadWalk
import HandS.EndTab
import HandS.NestedK
import HandS.Replace
import HandS.ReplaceList
import HandS.ReplaceLit
import PyProof.Rows.RegReprOcc
import HandS.Codes
import HandS.TupLen
import PyProof.DictMoreH
import KE.KDictPairs
import PyProof.NeKinds
import KE.KEqDict
import KE.KTupSum
import KE.KItemsList
import PyProof.ZipIter
import HandS.ListItems
import HandS.Text
import KE.GoesComp
import PySem.Challenge.RW_menleap_k92_matches_refused
set_option Elab.async false
set_option linter.all false
set_option maxRecDepth 100000
set_option maxHeartbeats 2000000
/-! Dn: a denotational layer over HandS. Base: data, cells, relations, readings. -/
namespace Dn
open PySem L2 PyProof.Rows

/-- pure data; texts are their codes -/
inductive D where
  | non | bl (b : Bool) | int (i : Int) | str (s : List Nat) | tup (xs : List D) | lst (xs : List D)
  | dct (kvs : List (NestedKey × D)) | dck (kvs : List (Key × D)) | opq
/-- a value of the machine below: data, or a cell of the store -/
inductive Val where
  | d (x : D) | r (n : Nat)
inductive Cell where
  | lst (xs : List Val) | tup (xs : List Val) | dct (kvs : List (NestedKey × Val)) | dck (kvs : List (Key × Val))
  | obj (C : Nat) (fs : List (Option Val)) | frz (x : D) | lck (kvs : List (Key × Val))
abbrev Sto := List Cell
abbrev Sl := List (Option Val)

/-- neither a table of code objects nor a code object -/
def NCT (o : HO) : Prop := (∀ ps, o ≠ .tbl ps) ∧ ∀ c q, o ≠ LamX.CodeO c q
/-- what a law keeps beside: of the kept heap, the cells, the heap -/
structure JP where
  J : Hp → List Addr → Hp → Prop
  new : ∀ {Hk : Hp} {m : List Addr} {H : Hp} {p : Addr} {o : HO}, J Hk m H → H p = none → J Hk m (upd H p o)
  newC : ∀ {Hk : Hp} {m : List Addr} {H : Hp} {p : Addr} {o : HO}, J Hk m H → H p = none → J Hk (m ++ [p]) (upd H p o)
  wr : ∀ {Hk : Hp} {m : List Addr} {H : Hp} {a : Addr} {o : HO}, J Hk m H → a ∈ m → J Hk m (upd H a o)
  ext : ∀ {Hk : Hp} {m : List Addr} {H H' : Hp}, J Hk m H → Same H H' → J Hk m H'
  cut : ∀ {Hk : Hp} {m more : List Addr} {H : Hp}, J Hk (m ++ more) H → J Hk m H
  bes : ∀ {Hk : Hp} {m : List Addr} {H : Hp} {L : Addr} {ys : List V}, J Hk m H → (H L = none ∨ ∃ xs, H L = some (.lst xs)) → J Hk m (upd H L (.lst ys))
  rem : ∀ {Hk : Hp} {m : List Addr} {H : Hp} {L : Addr} {xs : List V}, J Hk m H → H L = some (.lst xs) → J Hk m (fun b => if b = L then none else H b)
  more : ∀ {Hk : Hp} {m : List Addr} {H : Hp} {L : Addr} {xs : List V}, J Hk m H → J (upd Hk L (.lst xs)) m H
  less : ∀ {Hk Hk' : Hp} {m : List Addr} {H : Hp}, J Hk' m H → Same Hk Hk' → J Hk m H
  meth : ∀ {Hk : Hp} {m m' : List Addr} {H H' : Hp}, J Hk m H → (∀ b o, b ∉ m → H b = some o → H' b = some o) → (∀ b ∈ m', b ∈ m ∨ H b = none) → J Hk m' H'
def JP.triv : JP where
  J := fun _ _ _ => True
  new := fun _ _ => trivial
  newC := fun _ _ => trivial
  wr := fun _ _ => trivial
  ext := fun _ _ => trivial
  cut := fun _ => trivial
  bes := fun _ _ => trivial
  rem := fun _ _ => trivial
  more := fun _ => trivial
  less := fun _ _ => trivial
  meth := fun _ _ _ => trivial
/-- what stands fixed through a law -/
structure Bs where
  P : Program
  w : World
  K : PySem.W.Frag
  mg : Str → Option Value
  clA : Nat → Addr
  fN : Nat → List Str
  exA : Nat → Addr
  jp : JP
  xv : Option Addr
/-- of a def: nothing beside -/
abbrev mkB (P : Program) (w : World) (K : PySem.W.Frag) (mg : Str → Option Value) (clA : Nat → Addr) (fN : Nat → List Str) (exA : Nat → Addr) : Bs := ⟨P, w, K, mg, clA, fN, exA, JP.triv, none⟩

mutual
def ofNK : NestedKey → D
  | .none => .non
  | .num i => .int i
  | .text x => .str x.cps.toList
  | .tup ks => .tup (ofNKs ks)
def ofNKs : List NestedKey → List D
  | [] => []
  | k :: ks => ofNK k :: ofNKs ks
end
mutual
def toNK : D → Option NestedKey
  | .int i => some (.num i)
  | .str x => some (.text ⟨x.toArray⟩)
  | .tup xs => match toNKs xs with
    | some ks => some (.tup ks)
    | none => none
  | .non => none | .bl _ => none | .lst _ => none | .dct _ => none | .dck _ => none | .opq => none
def toNKs : List D → Option (List NestedKey)
  | [] => some []
  | x :: xs => match toNK x, toNKs xs with
    | some k, some ks => some (k :: ks)
    | _, _ => none
end
theorem map_ofNK (ks : List NestedKey) : ofNKs ks = ks.map ofNK := by
  induction ks with
  | nil => rfl
  | cons k ks ih => rw [ofNKs, ih]; rfl

abbrev Ent := NestedKey × Addr × Value
/-- a dict with tuple keys: its very object -/
def dN (P : Program) (w : World) (a : Addr) (o : Obj) (es : List Ent) : HO := .ext fun h => h.get? a = some o ∧ (a == sysModules) = false ∧ es.length ≤ sizeLine ∧
  ∃ es' ep, o.ExactDict ∧ o.data = .dict es' ep ∧ es'.toList = es.map (entryOfKey (nestedKind P w)) ∧ (es.map (·.1)).Nodup

mutual
/-- the value v in the heap F is the data d -/
inductive Rel (B : Bs) (F : Hp) : V → D → Prop
  | non : Rel B F .non .non
  | bl (b : Bool) : Rel B F (.bl b) (.bl b)
  | int (i : Int) : Rel B F (.int i) (.int i)
  | str (s : List Nat) : Rel B F (.str ⟨s.toArray⟩) (.str s)
  | tup {a : Addr} {xs : List V} {ds : List D} : SqT B.K F a xs → Rels B F xs ds → Rel B F (.ref a) (.tup ds)
  | lst {a : Addr} {xs : List V} {ds : List D} : Rd F a (.lst xs) → Rels B F xs ds → Rel B F (.ref a) (.lst ds)
  | dct {a : Addr} {o : Obj} {es : List Ent} {kvs : List (NestedKey × D)} : F a = some (dN B.P B.w a o es) → Ents B F es kvs → Rel B F (.ref a) (.dct kvs)
  | dck {a : Addr} {vs : List (Key × V)} {kvs : List (Key × D)} : F a = some (.dK vs) → Kvs B F vs kvs → Rel B F (.ref a) (.dck kvs)
  | opq {a : Addr} : B.xv = some a → Rel B F (.ref a) .opq
inductive Rels (B : Bs) (F : Hp) : List V → List D → Prop
  | nil : Rels B F [] []
  | cons {v : V} {vs : List V} {d : D} {ds : List D} : Rel B F v d → Rels B F vs ds → Rels B F (v :: vs) (d :: ds)
inductive Ents (B : Bs) (F : Hp) : List Ent → List (NestedKey × D) → Prop
  | nil : Ents B F [] []
  | cons {k : NestedKey} {q : Addr} {u : Value} {v : V} {d : D} {es : List Ent} {kvs : List (NestedKey × D)} : Rel B F (.ref q) (ofNK k) → k.depth ≤ 8 → RelV v u → Rel B F v d → Ents B F es kvs → Ents B F ((k, q, u) :: es) ((k, d) :: kvs)
inductive Kvs (B : Bs) (F : Hp) : List (Key × V) → List (Key × D) → Prop
  | nil : Kvs B F [] []
  | cons {k : Key} {v : V} {d : D} {vs : List (Key × V)} {kvs : List (Key × D)} : Rel B F v d → Kvs B F vs kvs → Kvs B F ((k, v) :: vs) ((k, d) :: kvs)
end

theorem Rd.same {F F' : Hp} {a : Addr} {u : HO} (e : Same F F') (h : Rd F a u) : Rd F' a u := by
  rcases h with h | ⟨o, h⟩
  · exact .inl (e _ _ h)
  · exact .inr ⟨o, e _ _ h⟩
theorem SqT.same {K : PySem.W.Frag} {F F' : Hp} {a : Addr} {xs : List V} (e : Same F F') (h : SqT K F a xs) : SqT K F' a xs := by
  rcases h with (h | ⟨o, h⟩) | h
  · exact .inl (.inl (e _ _ h))
  · exact .inl (.inr ⟨o, e _ _ h⟩)
  · exact .inr h
mutual
theorem Rel.mono {B : Bs} {F F' : Hp} (e : Same F F') : ∀ {v : V} {d : D}, Rel B F v d → Rel B F' v d
  | _, _, .non => .non
  | _, _, .bl b => .bl b
  | _, _, .int i => .int i
  | _, _, .str s => .str s
  | _, _, .tup q r => .tup (SqT.same e q) (Rels.mono e r)
  | _, _, .lst q r => .lst (Rd.same e q) (Rels.mono e r)
  | _, _, .dct q r => .dct (e _ _ q) (Ents.mono e r)
  | _, _, .dck q r => .dck (e _ _ q) (Kvs.mono e r)
  | _, _, .opq h => .opq h
theorem Rels.mono {B : Bs} {F F' : Hp} (e : Same F F') : ∀ {v : List V} {d : List D}, Rels B F v d → Rels B F' v d
  | _, _, .nil => .nil
  | _, _, .cons q r => .cons (Rel.mono e q) (Rels.mono e r)
theorem Ents.mono {B : Bs} {F F' : Hp} (e : Same F F') : ∀ {v : List Ent} {d : List (NestedKey × D)}, Ents B F v d → Ents B F' v d
  | _, _, .nil => .nil
  | _, _, .cons q g r s t => .cons (Rel.mono e q) g r (Rel.mono e s) (Ents.mono e t)
theorem Kvs.mono {B : Bs} {F F' : Hp} (e : Same F F') : ∀ {v : List (Key × V)} {d : List (Key × D)}, Kvs B F v d → Kvs B F' v d
  | _, _, .nil => .nil
  | _, _, .cons q r => .cons (Rel.mono e q) (Kvs.mono e r)
end
theorem Rels.len {B : Bs} {F : Hp} : ∀ {vs : List V} {ds : List D}, Rels B F vs ds → vs.length = ds.length
  | _, _, .nil => rfl
  | _, _, .cons _ r => by rw [List.length_cons, List.length_cons, Rels.len r]
theorem Rels.get {B : Bs} {F : Hp} : ∀ {vs : List V} {ds : List D} {i : Nat} {d : D}, Rels B F vs ds → ds[i]? = some d → ∃ v, vs[i]? = some v ∧ Rel B F v d
  | _, _, _, _, .nil, e => by simp at e
  | _, _, 0, _, .cons r _, e => by simp at e; subst e; exact ⟨_, rfl, r⟩
  | _, _, i + 1, d, .cons _ t, e => by
    obtain ⟨v, h1, h2⟩ := Rels.get (i := i) (d := d) t (by simpa using e)
    exact ⟨v, by simpa using h1, h2⟩
theorem Rels.getV {B : Bs} {F : Hp} : ∀ {vs : List V} {ds : List D} {i : Nat} {v : V}, Rels B F vs ds → vs[i]? = some v → ∃ d, ds[i]? = some d ∧ Rel B F v d
  | _, _, _, _, .nil, e => by simp at e
  | _, _, 0, _, .cons r _, e => by simp at e; subst e; exact ⟨_, rfl, r⟩
  | _, _, i + 1, v, .cons _ t, e => by
    obtain ⟨d, h1, h2⟩ := Rels.getV (i := i) (v := v) t (by simpa using e)
    exact ⟨d, by simpa using h1, h2⟩
theorem Rels.append {B : Bs} {F : Hp} : ∀ {vs ws : List V} {ds es : List D}, Rels B F vs ds → Rels B F ws es → Rels B F (vs ++ ws) (ds ++ es)
  | _, _, _, _, .nil, s => s
  | _, _, _, _, .cons r t, s => .cons r (Rels.append t s)
theorem Rels.drop {B : Bs} {F : Hp} : ∀ {vs : List V} {ds : List D} (n : Nat), Rels B F vs ds → Rels B F (vs.drop n) (ds.drop n)
  | _, _, 0, r => r
  | _, _, _ + 1, .nil => .nil
  | _, _, n + 1, .cons _ t => Rels.drop n t
theorem Rels.take {B : Bs} {F : Hp} : ∀ {vs : List V} {ds : List D} (n : Nat), Rels B F vs ds → Rels B F (vs.take n) (ds.take n)
  | _, _, 0, _ => .nil
  | _, _, _ + 1, .nil => .nil
  | _, _, n + 1, .cons r t => .cons r (Rels.take n t)
theorem Rels.reverse {B : Bs} {F : Hp} : ∀ {vs : List V} {ds : List D}, Rels B F vs ds → Rels B F vs.reverse ds.reverse
  | _, _, .nil => .nil
  | _, _, .cons r t => by rw [List.reverse_cons, List.reverse_cons]; exact Rels.append (Rels.reverse t) (.cons r .nil)

/-! ### values with cells -/
inductive RelX (B : Bs) (m : List Addr) (F : Hp) : V → Val → Prop
  | d {v : V} {x : D} : Rel B F v x → RelX B m F v (.d x)
  | r {n : Nat} {a : Addr} : m[n]? = some a → RelX B m F (.ref a) (.r n)
inductive RelXs (B : Bs) (m : List Addr) (F : Hp) : List V → List Val → Prop
  | nil : RelXs B m F [] []
  | cons {v : V} {vs : List V} {x : Val} {xs : List Val} : RelX B m F v x → RelXs B m F vs xs → RelXs B m F (v :: vs) (x :: xs)
inductive EntXs (B : Bs) (m : List Addr) (F : Hp) : List Ent → List (NestedKey × Val) → Prop
  | nil : EntXs B m F [] []
  | cons {k : NestedKey} {q : Addr} {u : Value} {v : V} {x : Val} {es : List Ent} {kvs : List (NestedKey × Val)} : Rel B F (.ref q) (ofNK k) → k.depth ≤ 8 → RelV v u → RelX B m F v x → EntXs B m F es kvs → EntXs B m F ((k, q, u) :: es) ((k, x) :: kvs)
inductive KvXs (B : Bs) (m : List Addr) (F : Hp) : List (Key × V) → List (Key × Val) → Prop
  | nil : KvXs B m F [] []
  | cons {k : Key} {v : V} {x : Val} {vs : List (Key × V)} {kvs : List (Key × Val)} : RelX B m F v x → KvXs B m F vs kvs → KvXs B m F ((k, v) :: vs) ((k, x) :: kvs)
def RelOX (B : Bs) (m : List Addr) (F : Hp) : Option V → Option Val → Prop
  | some v, some x => RelX B m F v x
  | none, none => True
  | _, _ => False

theorem app_get {m more : List Addr} {n : Nat} {a : Addr} (h : m[n]? = some a) : (m ++ more)[n]? = some a := by
  rw [List.getElem?_append_left (List.getElem?_eq_some_iff.mp h).1]; exact h
theorem RelX.mono {B : Bs} {m m' : List Addr} {F F' : Hp} (hm : ∃ more, m' = m ++ more) (e : Same F F') {v : V} {x : Val} (h : RelX B m F v x) : RelX B m' F' v x := by
  obtain ⟨more, rfl⟩ := hm
  cases h with
  | d h => exact .d (h.mono e)
  | r h => exact .r (app_get h)
theorem RelXs.mono {B : Bs} {m m' : List Addr} {F F' : Hp} (hm : ∃ more, m' = m ++ more) (e : Same F F') : ∀ {v : List V} {x : List Val}, RelXs B m F v x → RelXs B m' F' v x
  | _, _, .nil => .nil
  | _, _, .cons h r => .cons (h.mono hm e) (RelXs.mono hm e r)
theorem EntXs.mono {B : Bs} {m m' : List Addr} {F F' : Hp} (hm : ∃ more, m' = m ++ more) (e : Same F F') : ∀ {v : List Ent} {x : List (NestedKey × Val)}, EntXs B m F v x → EntXs B m' F' v x
  | _, _, .nil => .nil
  | _, _, .cons h g r s t => .cons (h.mono e) g r (s.mono hm e) (EntXs.mono hm e t)
theorem KvXs.mono {B : Bs} {m m' : List Addr} {F F' : Hp} (hm : ∃ more, m' = m ++ more) (e : Same F F') : ∀ {v : List (Key × V)} {x : List (Key × Val)}, KvXs B m F v x → KvXs B m' F' v x
  | _, _, .nil => .nil
  | _, _, .cons h r => .cons (h.mono hm e) (KvXs.mono hm e r)
theorem RelOX.mono {B : Bs} {m m' : List Addr} {F F' : Hp} (hm : ∃ more, m' = m ++ more) (e : Same F F') {v : Option V} {x : Option Val} (h : RelOX B m F v x) : RelOX B m' F' v x := by
  cases v with
  | none => cases x with
    | none => trivial
    | some _ => exact h.elim
  | some v => cases x with
    | none => exact h.elim
    | some x => exact RelX.mono hm e h
theorem RelXs.len {B : Bs} {m : List Addr} {F : Hp} : ∀ {vs : List V} {ds : List Val}, RelXs B m F vs ds → vs.length = ds.length
  | _, _, .nil => rfl
  | _, _, .cons _ r => by rw [List.length_cons, List.length_cons, RelXs.len r]
theorem RelXs.get {B : Bs} {m : List Addr} {F : Hp} : ∀ {vs : List V} {ds : List Val} {i : Nat} {d : Val}, RelXs B m F vs ds → ds[i]? = some d → ∃ v, vs[i]? = some v ∧ RelX B m F v d
  | _, _, _, _, .nil, e => by simp at e
  | _, _, 0, _, .cons r _, e => by simp at e; subst e; exact ⟨_, rfl, r⟩
  | _, _, i + 1, d, .cons _ t, e => by
    obtain ⟨v, h1, h2⟩ := RelXs.get (i := i) (d := d) t (by simpa using e)
    exact ⟨v, by simpa using h1, h2⟩
theorem RelXs.append {B : Bs} {m : List Addr} {F : Hp} : ∀ {vs ws : List V} {ds es : List Val}, RelXs B m F vs ds → RelXs B m F ws es → RelXs B m F (vs ++ ws) (ds ++ es)
  | _, _, _, _, .nil, s => s
  | _, _, _, _, .cons r t, s => .cons r (RelXs.append t s)

/-! ### the store -/
/-- the cell c stands at a -/
def CellR (B : Bs) (m : List Addr) (F H : Hp) (a : Addr) : Cell → Prop
  | .lst xs => F a = none ∧ ∃ vs, H a = some (.lst vs) ∧ RelXs B m F vs xs
  | .tup xs => F a = none ∧ ∃ vs, H a = some (.tup vs) ∧ RelXs B m F vs xs
  | .dct kvs => F a = none ∧ ∃ o es, H a = some (dN B.P B.w a o es) ∧ EntXs B m F es kvs
  | .dck kvs => F a = none ∧ ∃ vs, H a = some (.dK vs) ∧ KvXs B m F vs kvs
  | .obj C fs => F a = none ∧ ∃ dx vs, H a = some (.ins (B.clA C) dx vs) ∧ vs.length + fs.countP Option.isNone ≤ 50 ∧ fs.length = (B.fN C).length ∧ (∀ n, n ∉ B.fN C → vs.lookup n = none) ∧ ∀ (i : Nat) (n : Str) (x : Option Val), (B.fN C)[i]? = some n → fs[i]? = some x → RelOX B m F (vs.lookup n) x
  | .frz x => Rel B F (.ref a) x
  | .lck kvs => ∃ o vs, F a = some (.frz o (.dK vs)) ∧ KvXs B m F vs kvs
structure RH (B : Bs) (Hk : Hp) (m : List Addr) (F : Hp) (S : Sto) (H : Hp) : Prop where
  keep : Same Hk H
  froz : Same F H
  len : m.length = S.length
  nd : m.Nodup
  there : ∀ a ∈ m, H a ≠ none
  free : ∀ a ∈ m, Hk a = none
  nt : ∀ a ps, F a ≠ some (.tbl ps)
  nc : ∀ a ∈ m, ∀ o, H a = some o → NCT o
  j : B.jp.J Hk m H
  cell : ∀ (n : Nat) (a : Addr) (c : Cell), m[n]? = some a → S[n]? = some c → CellR B m F H a c
structure RSl (B : Bs) (m : List Addr) (F : Hp) (sl : Sl) (σ : L2.St) : Prop where
  len : σ.length = sl.length
  at_ : ∀ (i : Nat) (x : Val), sl[i]? = some (some x) → ∃ v, σ[i]? = some (some v) ∧ RelX B m F v x
structure Grow (m : List Addr) (F H : Hp) (m' : List Addr) (F' H' : Hp) : Prop where
  mm : ∃ more, m' = m ++ more
  mf : ∀ b, b ∈ m' → b ∈ m ∨ H b = none
  ff : Same F F'
  fr : ∀ b, F b = none → H b ≠ none → b ∉ m → F' b = none
  hh : ∀ b, H b ≠ none → H' b ≠ none
theorem Grow.refl (m : List Addr) (F H : Hp) : Grow m F H m F H := ⟨⟨[], by simp⟩, fun _ h => .inl h, fun _ _ h => h, fun _ h _ _ => h, fun _ h => h⟩
theorem Grow.trans {m m1 m2 : List Addr} {F F1 F2 H H1 H2 : Hp} (a : Grow m F H m1 F1 H1) (b : Grow m1 F1 H1 m2 F2 H2) : Grow m F H m2 F2 H2 where
  mm := by
    obtain ⟨x, rfl⟩ := a.mm
    obtain ⟨y, rfl⟩ := b.mm
    exact ⟨x ++ y, by simp⟩
  mf := fun c h => by
    rcases b.mf c h with h | h
    · exact a.mf c h
    · refine .inr ?_
      cases q : H c with
      | none => rfl
      | some o => exact absurd h (a.hh c (by rw [q]; simp))
  ff := a.ff.trans b.ff
  fr := fun c h1 h2 h3 => b.fr c (a.fr c h1 h2 h3) (a.hh c h2) fun h => by
    rcases a.mf c h with h | h
    · exact h3 h
    · exact h2 h
  hh := fun c h => b.hh c (a.hh c h)
theorem RSl.mono {B : Bs} {m m' : List Addr} {F F' H H' : Hp} {sl : Sl} {σ : L2.St} (r : RSl B m F sl σ) (g : Grow m F H m' F' H') : RSl B m' F' sl σ :=
  ⟨r.len, fun i x e => let ⟨v, a, b⟩ := r.at_ i x e; ⟨v, a, b.mono g.mm g.ff⟩⟩
theorem RelX.grow {B : Bs} {m m' : List Addr} {F F' H H' : Hp} {v : V} {x : Val} (r : RelX B m F v x) (g : Grow m F H m' F' H') : RelX B m' F' v x := r.mono g.mm g.ff
theorem RelXs.grow {B : Bs} {m m' : List Addr} {F F' H H' : Hp} {v : List V} {x : List Val} (r : RelXs B m F v x) (g : Grow m F H m' F' H') : RelXs B m' F' v x := r.mono g.mm g.ff
theorem Rel.grow {B : Bs} {m m' : List Addr} {F F' H H' : Hp} {v : V} {x : D} (r : Rel B F v x) (g : Grow m F H m' F' H') : Rel B F' v x := r.mono g.ff

/-! ### outcomes -/
inductive Out (α : Type) where
  | ok (a : α) (S : Sto) | exc (c : Nat) (S : Sto) | bad
def Out.bind {α β : Type} (o : Out α) (k : α → Sto → Out β) : Out β := match o with
  | .ok a S => k a S
  | .exc c S => .exc c S
  | .bad => .bad
@[simp] theorem Out.bind_ok {α β : Type} (a : α) (S : Sto) (k : α → Sto → Out β) : (Out.ok a S).bind k = k a S := rfl
@[simp] theorem Out.bind_exc {α β : Type} (c : Nat) (S : Sto) (k : α → Sto → Out β) : (Out.exc c S).bind k = .exc c S := rfl
@[simp] theorem Out.bind_bad {α β : Type} (k : α → Sto → Out β) : (Out.bad : Out α).bind k = .bad := rfl
def Out.of {α : Type} (o : Option α) (S : Sto) : Out α := match o with
  | some a => .ok a S
  | none => .bad
@[simp] theorem Out.of_some {α : Type} (a : α) (S : Sto) : Out.of (some a) S = .ok a S := rfl
@[simp] theorem Out.of_none {α : Type} (S : Sto) : Out.of (none : Option α) S = .bad := rfl

section
variable {α β γ δ : Type} (B : Bs) (W : WX)
/-- what is wanted behind -/
def post (rel : List Addr → Hp → γ → α → Prop) (Hk : Hp) (σ : L2.St) (m : List Addr) (F H : Hp) (o : Out α) (Q : γ → Hp → Prop) : Prop := match o with
  | .ok x S' => ∀ v H' m' F', RH B Hk m' F' S' H' → Grow m F H m' F' H' → rel m' F' v x → Q v H'
  | .exc c S' => ∀ H' m' F', RH B Hk m' F' S' H' → Grow m F H m' F' H' → W (.ref (B.exA c)) none σ H'
  | .bad => False
/-- the reading of a function -/
def den (rel : List Addr → Hp → γ → α → Prop) (f : Sl → Sto → Out α) : L2.St → Hp → (γ → Hp → Prop) → Prop := fun σ H Q =>
  ∃ Hk m F sl S, RH B Hk m F S H ∧ RSl B m F sl σ ∧ post B W rel Hk σ m F H (f sl S) Q
end
section
variable {α β γ δ : Type} {B : Bs} {W : WX} {rel : List Addr → Hp → γ → α → Prop} {rel2 : List Addr → Hp → δ → β → Prop} {Hk : Hp} {σ : L2.St} {m m1 : List Addr} {F H F1 H1 : Hp} {sl : Sl} {S : Sto}
theorem post_grow {o : Out α} {Q : γ → Hp → Prop} (g : Grow m F H m1 F1 H1) (h : post B W rel Hk σ m F H o Q) : post B W rel Hk σ m1 F1 H1 o Q := by
  cases o with
  | ok x S' => exact fun v H' m' F' R G r => h v H' m' F' R (g.trans G) r
  | exc c S' => exact fun H' m' F' R G => h H' m' F' R (g.trans G)
  | bad => exact h
theorem post_ok {o : Out α} {Q : γ → Hp → Prop} {x : α} {S' : Sto} {v : γ} (h : post B W rel Hk σ m F H o Q) (e : o = .ok x S') (R : RH B Hk m1 F1 S' H1) (g : Grow m F H m1 F1 H1) (r : rel m1 F1 v x) : Q v H1 := by
  subst e; exact h v H1 m1 F1 R g r
/-- one part, then the rest -/
theorem den_step {f : Sl → Sto → Out α} {k : α → Sto → Out β} {Q : δ → Hp → Prop} (R : RH B Hk m F S H) (R2 : RSl B m F sl σ) (h : post B W rel2 Hk σ m F H ((f sl S).bind k) Q) :
    den B W rel f σ H (fun v H1 => ∃ m1 F1 S1 x, RH B Hk m1 F1 S1 H1 ∧ RSl B m1 F1 sl σ ∧ Grow m F H m1 F1 H1 ∧ rel m1 F1 v x ∧ post B W rel2 Hk σ m1 F1 H1 (k x S1) Q) := by
  refine ⟨Hk, m, F, sl, S, R, R2, ?_⟩
  cases e : f sl S with
  | ok x S' =>
    rw [e] at h
    exact fun v H' m' F' R' G r => ⟨m', F', S', x, R', R2.mono G, G, r, post_grow G h⟩
  | exc c S' =>
    rw [e] at h
    exact h
  | bad =>
    rw [e] at h
    exact h
end
abbrev relE (B : Bs) : List Addr → Hp → V → Val → Prop := RelX B
abbrev relT : List Addr → Hp → Bool → Bool → Prop := fun _ _ a b => a = b
abbrev relA (B : Bs) : List Addr → Hp → List V → List Val → Prop := RelXs B
abbrev DE := Sl → Sto → Out Val
abbrev DT := Sl → Sto → Out Bool
abbrev DA := Sl → Sto → Out (List Val)
abbrev denE (B : Bs) (W : WX) (f : DE) : TE := den B W (relE B) f
abbrev denT (B : Bs) (W : WX) (f : DT) : TT := den B W relT f
abbrev denA (B : Bs) (W : WX) (f : DA) : TA := den B W (relA B) f

inductive Fl where
  | nx (sl : Sl) (S : Sto) | ret (x : Val) (S : Sto) | bk (sl : Sl) (S : Sto) | ct (sl : Sl) (S : Sto) | exc (c : Nat) (sl : Sl) (S : Sto) | bad
abbrev DS := Sl → Sto → Fl
def postS (B : Bs) (W : WX) (Hk : Hp) (m : List Addr) (F H : Hp) (o : Fl) (D : Ends) : Prop := match o with
  | .nx sl' S' => ∀ σ' H' m' F', RH B Hk m' F' S' H' → RSl B m' F' sl' σ' → Grow m F H m' F' H' → D.nx σ' H'
  | .ret x S' => ∀ v H' m' F', RH B Hk m' F' S' H' → Grow m F H m' F' H' → RelX B m' F' v x → D.rt v H'
  | .bk sl' S' => ∀ σ' H' m' F', RH B Hk m' F' S' H' → RSl B m' F' sl' σ' → Grow m F H m' F' H' → D.bk σ' H'
  | .ct sl' S' => ∀ σ' H' m' F', RH B Hk m' F' S' H' → RSl B m' F' sl' σ' → Grow m F H m' F' H' → D.ct σ' H'
  | .exc c sl' S' => ∀ σ' H' m' F', RH B Hk m' F' S' H' → RSl B m' F' sl' σ' → Grow m F H m' F' H' → W (.ref (B.exA c)) none σ' H'
  | .bad => False
def denS (B : Bs) (W : WX) (f : DS) : TS := fun D σ H => ∃ Hk m F sl S, RH B Hk m F S H ∧ RSl B m F sl σ ∧ postS B W Hk m F H (f sl S) D
theorem postS_grow {B : Bs} {W : WX} {Hk : Hp} {m m1 : List Addr} {F H F1 H1 : Hp} {o : Fl} {D : Ends} (g : Grow m F H m1 F1 H1) (h : postS B W Hk m F H o D) : postS B W Hk m1 F1 H1 o D := by
  cases o with
  | nx sl S' => exact fun σ' H' m' F' R R2 G => h σ' H' m' F' R R2 (g.trans G)
  | ret x S' => exact fun v H' m' F' R G r => h v H' m' F' R (g.trans G) r
  | bk sl S' => exact fun σ' H' m' F' R R2 G => h σ' H' m' F' R R2 (g.trans G)
  | ct sl S' => exact fun σ' H' m' F' R R2 G => h σ' H' m' F' R R2 (g.trans G)
  | exc c sl S' => exact fun σ' H' m' F' R R2 G => h σ' H' m' F' R R2 (g.trans G)
  | bad => exact h
/-- an expression, then the rest of the statement -/
def Out.fl {α : Type} (o : Out α) (sl : Sl) (k : α → Sto → Fl) : Fl := match o with
  | .ok a S => k a S
  | .exc c S => .exc c sl S
  | .bad => .bad
@[simp] theorem Out.fl_ok {α : Type} (a : α) (S : Sto) (sl : Sl) (k : α → Sto → Fl) : (Out.ok a S).fl sl k = k a S := rfl
@[simp] theorem Out.fl_exc {α : Type} (c : Nat) (S : Sto) (sl : Sl) (k : α → Sto → Fl) : (Out.exc c S : Out α).fl sl k = .exc c sl S := rfl
@[simp] theorem Out.fl_bad {α : Type} (sl : Sl) (k : α → Sto → Fl) : (Out.bad : Out α).fl sl k = .bad := rfl
theorem denS_step {α γ : Type} {B : Bs} {W : WX} {rel : List Addr → Hp → γ → α → Prop} {Hk : Hp} {σ : L2.St} {m : List Addr} {F H : Hp} {sl : Sl} {S : Sto} {f : Sl → Sto → Out α} {k : α → Sto → Fl} {D : Ends} (R : RH B Hk m F S H) (R2 : RSl B m F sl σ) (h : postS B W Hk m F H ((f sl S).fl sl k) D) :
    den B W rel f σ H (fun v H1 => ∃ m1 F1 S1 x, RH B Hk m1 F1 S1 H1 ∧ RSl B m1 F1 sl σ ∧ Grow m F H m1 F1 H1 ∧ rel m1 F1 v x ∧ postS B W Hk m1 F1 H1 (k x S1) D) := by
  refine ⟨Hk, m, F, sl, S, R, R2, ?_⟩
  cases e : f sl S with
  | ok x S' =>
    rw [e] at h
    exact fun v H' m' F' R' G r => ⟨m', F', S', x, R', R2.mono G, G, r, postS_grow G h⟩
  | exc c S' =>
    rw [e] at h
    exact fun H' m' F' R' G => h σ H' m' F' R' (R2.mono G) G
  | bad =>
    rw [e] at h
    exact h

/-! ### weaker readings -/
theorem PE_weak {X : Cx} {e : Expr} {t t' : TE} (h : PE X e t) (w : ∀ σ H Q, t' σ H Q → t σ H Q) : PE X e t' := ⟨fun pins s σ H Q I q => h.run pins s σ H Q I (w σ H Q q)⟩
theorem PT_weak {X : Cx} {e : Expr} {t t' : TT} (h : PT X e t) (w : ∀ σ H Q, t' σ H Q → t σ H Q) : PT X e t' := ⟨fun pins s σ H Q I q => h.run pins s σ H Q I (w σ H Q q)⟩
theorem PW_weak {X : Cx} {e : Expr} {t t' : TT} (h : PW X e t) (w : ∀ σ H Q, t' σ H Q → t σ H Q) : PW X e t' := ⟨fun wh pins s σ H Q I q => h.run wh pins s σ H Q I (w σ H Q q)⟩
theorem PA_weak {X : Cx} {e : List Expr} {t t' : TA} (h : PA X e t) (w : ∀ σ H Q, t' σ H Q → t σ H Q) : PA X e t' := ⟨fun pos pins s σ H Q I q => h.run pos pins s σ H Q I (w σ H Q q)⟩
theorem PS_weak {X : Cx} {e : Stmt} {t t' : TS} (h : PS X e t) (w : ∀ D σ H, t' D σ H → t D σ H) : PS X e t' := ⟨fun pins s σ H D I q => h.run pins s σ H D I (w D σ H q)⟩
theorem PSs_weak {X : Cx} {e : List Stmt} {t t' : TS} (h : PSs X e t) (w : ∀ D σ H, t' D σ H → t D σ H) : PSs X e t' := ⟨fun pins s σ H D I q => h.run pins s σ H D I (w D σ H q)⟩

/-! ### what may change -/
section
variable {B : Bs} {Hk : Hp} {m : List Addr} {F H : Hp} {S : Sto} {p : Addr} {o : HO}
theorem same_upd {G : Hp} (h : Same G H) (hp : H p = none) : Same G (upd H p o) := fun b u e => by
  rw [upd_ne (ne_of_none (h b u e) hp)]; exact h b u e
theorem same_own {G : Hp} (hp : G p = none) : Same G (upd G p o) := fun b u e => by
  rw [upd_ne (ne_of_none e hp)]; exact e
theorem RH.none (R : RH B Hk m F S H) (hp : H p = Option.none) : F p = Option.none := R.froz.free hp
theorem CellR.keep {H' F' : Hp} {m' : List Addr} {a : Addr} {c : Cell} (x : CellR B m F H a c) (hm : ∃ more, m' = m ++ more) (hf : Same F F') (ha : H' a = H a) (hn : F a = Option.none → F' a = Option.none) : CellR B m' F' H' a c := by
  cases c with
  | lst xs => obtain ⟨e0, vs, e, r⟩ := x; exact ⟨hn e0, vs, ha.trans e, r.mono hm hf⟩
  | tup xs => obtain ⟨e0, vs, e, r⟩ := x; exact ⟨hn e0, vs, ha.trans e, r.mono hm hf⟩
  | dct kvs => obtain ⟨e0, o, es, e, r⟩ := x; exact ⟨hn e0, o, es, ha.trans e, r.mono hm hf⟩
  | dck kvs => obtain ⟨e0, vs, e, r⟩ := x; exact ⟨hn e0, vs, ha.trans e, r.mono hm hf⟩
  | obj C fs =>
    obtain ⟨e0, dx, vs, e, l, l2, n, r⟩ := x
    exact ⟨hn e0, dx, vs, ha.trans e, l, l2, n, fun i nm y h1 h2 => (r i nm y h1 h2).mono hm hf⟩
  | frz x => exact Rel.mono hf (show Rel B F (.ref a) _ from by assumption)
  | lck kvs => obtain ⟨o, vs, e, r⟩ := x; exact ⟨o, vs, hf _ _ e, r.mono hm hf⟩
theorem mem_get {n : Nat} {a : Addr} (h : m[n]? = some a) : a ∈ m := List.mem_of_getElem? h
/-- new data -/
theorem nct_by {o : HO} (h1 : ∀ ps, o ≠ .tbl ps) (h2 : ∀ c q, o ≠ LamX.CodeO c q) : NCT o := ⟨h1, h2⟩
theorem RH.newF (R : RH B Hk m F S H) (hp : H p = Option.none) (ho : ∀ ps, o ≠ .tbl ps := by intro _ h; cases h) : RH B Hk m (upd F p o) S (upd H p o) ∧ Grow m F H m (upd F p o) (upd H p o) := by
  have fp := R.none hp
  have ne : ∀ a ∈ m, a ≠ p := fun a ha e => R.there a ha (by rw [e]; exact hp)
  refine ⟨⟨same_upd R.keep hp, fun b u e => ?_, R.len, R.nd, fun a ha => by rw [upd_ne (ne a ha)]; exact R.there a ha, R.free, fun a ps e => ?_, fun a ha o' e => R.nc a ha o' (by rw [upd_ne (ne a ha)] at e; exact e), B.jp.new R.j hp, fun n a c h1 h2 => ?_⟩, ⟨⟨[], by simp⟩, fun _ h => .inl h, same_own fp, fun b h1 h2 _ => ?_, fun b h => ?_⟩⟩
  · by_cases hb : b = p
    · subst hb; rw [upd_same] at e ⊢; exact e
    · rw [upd_ne hb] at e ⊢; exact R.froz b u e
  · by_cases hb : a = p
    · rw [hb, upd_same] at e; exact ho ps (Option.some.inj e)
    · rw [upd_ne hb] at e; exact R.nt a ps e
  · have n1 := ne a (mem_get h1)
    exact (R.cell n a c h1 h2).keep ⟨[], by simp⟩ (same_own fp) (upd_ne n1) fun e => by rw [upd_ne n1]; exact e
  · rw [upd_ne (fun e => h2 (by rw [e]; exact hp))]; exact h1
  · by_cases hb : b = p
    · subst hb; rw [upd_same]; simp
    · rw [upd_ne hb]; exact h
/-- something new that is neither data nor a cell -/
theorem RH.newO (R : RH B Hk m F S H) (hp : H p = Option.none) : RH B Hk m F S (upd H p o) ∧ Grow m F H m F (upd H p o) := by
  have ne : ∀ a ∈ m, a ≠ p := fun a ha e => R.there a ha (by rw [e]; exact hp)
  refine ⟨⟨same_upd R.keep hp, same_upd R.froz hp, R.len, R.nd, fun a ha => by rw [upd_ne (ne a ha)]; exact R.there a ha, R.free, R.nt, fun a ha o' e => R.nc a ha o' (by rw [upd_ne (ne a ha)] at e; exact e), B.jp.new R.j hp, fun n a c h1 h2 => ?_⟩, ⟨⟨[], by simp⟩, fun _ h => .inl h, fun _ _ h => h, fun b h1 _ _ => h1, fun b h => ?_⟩⟩
  · exact (R.cell n a c h1 h2).keep ⟨[], by simp⟩ (fun _ _ h => h) (upd_ne (ne a (mem_get h1))) fun e => e
  · by_cases hb : b = p
    · subst hb; rw [upd_same]; simp
    · rw [upd_ne hb]; exact h
/-- a new cell -/
theorem RH.newC {c : Cell} (R : RH B Hk m F S H) (hp : H p = Option.none) (hc : CellR B (m ++ [p]) F (upd H p o) p c) (ho : NCT o := by exact ⟨(by intro _ h; cases h), (by intro _ _ h; cases h)⟩) : RH B Hk (m ++ [p]) F (S ++ [c]) (upd H p o) ∧ Grow m F H (m ++ [p]) F (upd H p o) := by
  have ne : ∀ a ∈ m, a ≠ p := fun a ha e => R.there a ha (by rw [e]; exact hp)
  refine ⟨⟨same_upd R.keep hp, same_upd R.froz hp, by simp [R.len], ?_, fun a ha => ?_, fun a ha => ?_, R.nt, fun a ha o' e => ?_, B.jp.newC R.j hp, fun n a c' h1 h2 => ?_⟩, ⟨⟨[p], rfl⟩, fun b h => ?_, fun _ _ h => h, fun b h1 _ _ => h1, fun b h => ?_⟩⟩
  · rw [List.nodup_append]
    exact ⟨R.nd, by simp, fun a ha b hb => by simp at hb; rw [hb]; exact ne a ha⟩
  · by_cases hb : a = p
    · rw [hb, upd_same]; simp
    · rw [upd_ne hb]
      exact R.there a ((List.mem_append.mp ha).elim id fun z => absurd (by simpa using z) hb)
  · rcases List.mem_append.mp ha with ha | ha
    · exact R.free a ha
    · have e : a = p := by simpa using ha
      rw [e]; exact R.keep.free hp
  · by_cases hb : a = p
    · rw [hb, upd_same] at e
      rw [← Option.some.inj e]; exact ho
    · rw [upd_ne hb] at e
      exact R.nc a ((List.mem_append.mp ha).elim id fun z => absurd (by simpa using z) hb) o' e
  · by_cases hn : n < m.length
    · rw [List.getElem?_append_left hn] at h1
      rw [List.getElem?_append_left (by rw [← R.len]; exact hn)] at h2
      exact (R.cell n a c' h1 h2).keep ⟨[p], rfl⟩ (fun _ _ h => h) (upd_ne (ne a (mem_get h1))) fun e => e
    · have hn' : n = m.length := by
        have := (List.getElem?_eq_some_iff.mp h1).1
        simp at this; omega
      subst hn'
      have e1 : a = p := by simpa using h1.symm
      have e2 : c' = c := by rw [R.len] at h2; simpa using h2.symm
      rw [e1, e2]; exact hc
  · rcases List.mem_append.mp h with h | h
    · exact .inl h
    · exact .inr (by have e : b = p := by simpa using h
                     rw [e]; exact hp)
  · by_cases hb : b = p
    · subst hb; rw [upd_same]; simp
    · rw [upd_ne hb]; exact h
theorem nodup_get {n k : Nat} {a : Addr} (nd : m.Nodup) (h1 : m[n]? = some a) (h2 : m[k]? = some a) : n = k := by
  obtain ⟨l1, e1⟩ := List.getElem?_eq_some_iff.mp h1
  obtain ⟨l2, e2⟩ := List.getElem?_eq_some_iff.mp h2
  exact (List.getElem_inj nd).mp (e1.trans e2.symm)
/-- a cell is written -/
theorem RH.write {n : Nat} {a : Addr} {c c' : Cell} (R : RH B Hk m F S H) (hn : m[n]? = some a) (hf : F a = Option.none) (hc : CellR B m F (upd H a o) a c') (ho : NCT o := by exact ⟨(by intro _ h; cases h), (by intro _ _ h; cases h)⟩) : RH B Hk m F (S.set n c') (upd H a o) ∧ Grow m F H m F (upd H a o) := by
  have hkn : Hk a = Option.none := R.free a (mem_get hn)
  refine ⟨⟨fun b u e => ?_, fun b u e => ?_, by simp [R.len], R.nd, fun b hb => ?_, R.free, R.nt, fun b hb o' e => ?_, B.jp.wr R.j (mem_get hn), fun k b d h1 h2 => ?_⟩, ⟨⟨[], by simp⟩, fun _ h => .inl h, fun _ _ h => h, fun b h1 _ _ => h1, fun b h => ?_⟩⟩
  · rw [upd_ne (ne_of_none e hkn)]; exact R.keep b u e
  · rw [upd_ne (ne_of_none e hf)]; exact R.froz b u e
  · by_cases q : b = a
    · rw [q, upd_same]; simp
    · rw [upd_ne q]; exact R.there b hb
  · by_cases q : b = a
    · rw [q, upd_same] at e
      rw [← Option.some.inj e]; exact ho
    · rw [upd_ne q] at e; exact R.nc b hb o' e
  · by_cases hk : k = n
    · subst hk
      rw [hn] at h1; cases h1
      have hl : k < S.length := by rw [← R.len]; exact (List.getElem?_eq_some_iff.mp hn).1
      rw [List.getElem?_set_self hl] at h2; cases h2
      exact hc
    · rw [List.getElem?_set_ne (Ne.symm hk)] at h2
      have nb : b ≠ a := fun e => hk (nodup_get R.nd (e ▸ h1) hn)
      exact (R.cell k b d h1 h2).keep ⟨[], by simp⟩ (fun _ _ h => h) (upd_ne nb) fun e => e
  · by_cases q : b = a
    · rw [q, upd_same]; simp
    · rw [upd_ne q]; exact h
/-- a cell becomes data -/
theorem RH.freeze {n : Nat} {a : Addr} {x : D} (R : RH B Hk m F S H) (hn : m[n]? = some a) (hf : F a = Option.none) (ho : H a = some o) (hx : Rel B (upd F a o) (.ref a) x) : RH B Hk m (upd F a o) (S.set n (.frz x)) H ∧ Grow m F H m (upd F a o) H := by
  refine ⟨⟨R.keep, fun b u e => ?_, by simp [R.len], R.nd, R.there, R.free, fun b ps e => ?_, R.nc, R.j, fun k b d h1 h2 => ?_⟩, ⟨⟨[], by simp⟩, fun _ h => .inl h, same_own hf, fun b h1 _ h3 => ?_, fun b h => h⟩⟩
  · by_cases hb : b = a
    · subst hb; rw [upd_same] at e; cases e; exact ho
    · rw [upd_ne hb] at e; exact R.froz b u e
  · by_cases hb : b = a
    · rw [hb, upd_same] at e
      exact (R.nc a (mem_get hn) o ho).1 ps (Option.some.inj e)
    · rw [upd_ne hb] at e; exact R.nt b ps e
  · by_cases hk : k = n
    · subst hk
      rw [hn] at h1; cases h1
      have hl : k < S.length := by rw [← R.len]; exact (List.getElem?_eq_some_iff.mp hn).1
      rw [List.getElem?_set_self hl] at h2; cases h2
      exact hx
    · rw [List.getElem?_set_ne (Ne.symm hk)] at h2
      have nb : b ≠ a := fun e => hk (nodup_get R.nd (e ▸ h1) hn)
      exact (R.cell k b d h1 h2).keep ⟨[], by simp⟩ (same_own hf) rfl fun e => by rw [upd_ne nb]; exact e
  · rw [upd_ne (fun e => h3 (by rw [e]; exact mem_get hn))]; exact h1
end
end Dn

set_option Elab.async false
set_option linter.all false
set_option maxRecDepth 100000
set_option maxHeartbeats 2000000
/-! Dn: the operations on data, plain Lean. -/
namespace Dn
open PySem L2 PyProof.Rows

def allD : List Val → Option (List D)
  | [] => some []
  | .d x :: r => match allD r with
    | some ds => some (x :: ds)
    | none => none
  | .r _ :: _ => none
def allDP {κ : Type} : List (κ × Val) → Option (List (κ × D))
  | [] => some []
  | (k, .d x) :: r => match allDP r with
    | some ds => some ((k, x) :: ds)
    | none => none
  | (_, .r _) :: _ => none
/-- a cell's content as data -/
def cellD : Cell → Option D
  | .lst xs => (allD xs).map .lst
  | .tup xs => (allD xs).map .tup
  | .dct kvs => (allDP kvs).map .dct
  | .dck kvs => (allDP kvs).map .dck
  | .obj _ _ => none
  | .frz x => some x
  | .lck _ => none
def cellL : Cell → Option D
  | .tup _ => none
  | c => cellD c
/-- looked at, not kept -/
def asD (S : Sto) : Val → Option D
  | .d x => some x
  | .r n => match S[n]? with
    | some c => cellL c
    | none => none
/-- kept: the cell is frozen -/
def toD (x : Val) (S : Sto) : Out D := match x with
  | .d x => .ok x S
  | .r n => match S[n]? with
    | some (.frz y) => .ok y S
    | some c => match cellD c with
      | some y => .ok y (S.set n (.frz y))
      | none => .bad
    | none => .bad
@[simp] theorem asD_d (S : Sto) (x : D) : asD S (.d x) = some x := rfl
@[simp] theorem toD_d (S : Sto) (x : D) : toD (.d x) S = .ok x S := rfl

/-! ### equality, as Python has it -/
mutual
def eqv : D → D → Bool
  | .non, .non => true
  | .bl a, .bl b => a == b
  | .bl a, .int j => (if a then 1 else 0) == j
  | .int i, .bl b => i == (if b then 1 else 0)
  | .int i, .int j => i == j
  | .str x, .str y => x == y
  | .lst xs, .lst ys => eqvs xs ys
  | .tup xs, .tup ys => eqvs xs ys
  | .non, .bl _ | .non, .int _ | .non, .str _ | .non, .lst _ | .non, .tup _ | .non, .dct _ | .non, .dck _ | .non, .opq => false
  | .bl _, .non | .bl _, .str _ | .bl _, .lst _ | .bl _, .tup _ | .bl _, .dct _ | .bl _, .dck _ | .bl _, .opq => false
  | .int _, .non | .int _, .str _ | .int _, .lst _ | .int _, .tup _ | .int _, .dct _ | .int _, .dck _ | .int _, .opq => false
  | .str _, .non | .str _, .bl _ | .str _, .int _ | .str _, .lst _ | .str _, .tup _ | .str _, .dct _ | .str _, .dck _ | .str _, .opq => false
  | .lst _, .non | .lst _, .bl _ | .lst _, .int _ | .lst _, .str _ | .lst _, .tup _ | .lst _, .dct _ | .lst _, .dck _ | .lst _, .opq => false
  | .tup _, .non | .tup _, .bl _ | .tup _, .int _ | .tup _, .str _ | .tup _, .lst _ | .tup _, .dct _ | .tup _, .dck _ | .tup _, .opq => false
  | .dct _, _ => false
  | .dck _, _ => false
  | .opq, _ => false
def eqvs : List D → List D → Bool
  | [], [] => true
  | x :: xs, y :: ys => eqv x y && eqvs xs ys
  | [], _ :: _ => false
  | _ :: _, [] => false
end
mutual
/-- no dict in it, of depth at most n, its texts texts -/
def okD : Nat → D → Bool
  | _, .non => true
  | _, .bl _ => true
  | _, .int _ => true
  | _, .str s => s.all fun c => decide (c < 1114112)
  | 0, .tup _ => false
  | n + 1, .tup xs => okDs n xs
  | 0, .lst _ => false
  | n + 1, .lst xs => okDs n xs
  | _, .dct _ => false
  | _, .dck _ => false
  | _, .opq => false
def okDs : Nat → List D → Bool
  | _, [] => true
  | n, x :: xs => okD n x && okDs n xs
end
mutual
def toPy : D → PyData
  | .non => .none
  | .bl b => .bool b
  | .int i => .int i
  | .str s => .str ⟨s.toArray⟩
  | .tup xs => .tuple (toPys xs)
  | .lst xs => .list (toPys xs)
  | .dct _ => .none
  | .dck _ => .none
  | .opq => .none
def toPys : List D → List PyData
  | [] => []
  | x :: xs => toPy x :: toPys xs
end
theorem okDs_all (n : Nat) : ∀ xs : List D, okDs n xs = xs.all (okD n)
  | [] => rfl
  | x :: xs => by rw [okDs, okDs_all n xs]; rfl
theorem beq_arr (a b : List Nat) : ((⟨a.toArray⟩ : Str) == ⟨b.toArray⟩) = (a == b) := by
  by_cases h : a = b
  · subst h; simp
  · have h' : ((⟨a.toArray⟩ : Str) = ⟨b.toArray⟩) → False := fun e => h (by injection e with e; simpa using congrArg Array.toList e)
    rw [beq_eq_false_iff_ne.mpr h, beq_eq_false_iff_ne.mpr h']
mutual
theorem okD_mono : ∀ (n : Nat) (d : D), okD n d = true → okD (n + 1) d = true
  | _, .non, _ => by simp [okD]
  | _, .bl _, _ => by simp [okD]
  | _, .int _, _ => by simp [okD]
  | _, .str s, h => by simpa [okD] using h
  | 0, .tup _, h => by simp [okD] at h
  | n + 1, .tup xs, h => by rw [okD] at h ⊢; exact okDs_mono n xs h
  | 0, .lst _, h => by simp [okD] at h
  | n + 1, .lst xs, h => by rw [okD] at h ⊢; exact okDs_mono n xs h
  | _, .dct _, h => by simp [okD] at h
  | _, .dck _, h => by simp [okD] at h
  | _, .opq, h => by simp [okD] at h
theorem okDs_mono : ∀ (n : Nat) (d : List D), okDs n d = true → okDs (n + 1) d = true
  | _, [], _ => by simp [okDs]
  | n, x :: xs, h => by
    simp only [okDs, Bool.and_eq_true] at h ⊢
    exact ⟨okD_mono n x h.1, okDs_mono n xs h.2⟩
end
mutual
theorem okD_lay : ∀ (n : Nat) (d : D), okD n d = true → (toPy d).canLay0 = true ∧ (toPy d).depth ≤ n
  | _, .non, _ => by simp [toPy, PyData.canLay0, PyData.depth]
  | _, .bl _, _ => by simp [toPy, PyData.canLay0, PyData.depth]
  | _, .int _, _ => by simp [toPy, PyData.canLay0, PyData.depth]
  | _, .str s, h => by
    simp only [okD, List.all_eq_true, decide_eq_true_eq] at h
    refine ⟨?_, by simp [toPy, PyData.depth]⟩
    simp only [toPy, PyData.canLay0]
    simp only [PyData.strOk, Array.all_eq_true', List.mem_toArray, decide_eq_true_eq]
    intro c hc
    have := h c hc
    omega
  | 0, .tup _, h => by simp [okD] at h
  | n + 1, .tup xs, h => by
    rw [okD] at h
    have := okDs_lay n xs h
    simp only [toPy, PyData.canLay0, PyData.depth]
    exact ⟨this.1, Nat.succ_le_succ this.2⟩
  | 0, .lst _, h => by simp [okD] at h
  | n + 1, .lst xs, h => by
    rw [okD] at h
    have := okDs_lay n xs h
    simp only [toPy, PyData.canLay0, PyData.depth]
    exact ⟨this.1, Nat.succ_le_succ this.2⟩
  | _, .dct _, h => by simp [okD] at h
  | _, .dck _, h => by simp [okD] at h
  | _, .opq, h => by simp [okD] at h
theorem okDs_lay : ∀ (n : Nat) (d : List D), okDs n d = true → PyData.canLayAll0 (toPys d) = true ∧ PyData.depthAll (toPys d) ≤ n
  | _, [], _ => by simp [toPys, PyData.canLayAll0, PyData.depthAll]
  | n, x :: xs, h => by
    simp only [okDs, Bool.and_eq_true] at h
    have h1 := okD_lay n x h.1
    have h2 := okDs_lay n xs h.2
    simp only [toPys, PyData.canLayAll0, PyData.depthAll, Bool.and_eq_true]
    exact ⟨⟨h1.1, h2.1⟩, Nat.max_le.mpr ⟨h1.2, h2.2⟩⟩
end
mutual
theorem eqv_py : ∀ (n k : Nat) (a b : D), okD n a = true → okD k b = true → PyData.eqv (toPy a) (toPy b) = eqv a b
  | _, _, .non, b, _, hb => by cases b <;> simp_all [toPy, PyData.eqv, eqv, okD]
  | _, _, .bl _, b, _, hb => by cases b <;> simp_all [toPy, PyData.eqv, eqv, okD]
  | _, _, .int _, b, _, hb => by cases b <;> simp_all [toPy, PyData.eqv, eqv, okD]
  | _, _, .str _, b, _, hb => by cases b <;> simp_all [toPy, PyData.eqv, eqv, okD, beq_arr]
  | n, k, .tup xs, b, ha, hb => by
    cases b with
    | tup ys =>
      cases n with
      | zero => simp [okD] at ha
      | succ n =>
        cases k with
        | zero => simp [okD] at hb
        | succ k =>
          rw [okD] at ha hb
          simp only [toPy, PyData.eqv, eqv]
          exact eqvs_py n k xs ys ha hb
    | _ => simp_all [toPy, PyData.eqv, eqv, okD]
  | n, k, .lst xs, b, ha, hb => by
    cases b with
    | lst ys =>
      cases n with
      | zero => simp [okD] at ha
      | succ n =>
        cases k with
        | zero => simp [okD] at hb
        | succ k =>
          rw [okD] at ha hb
          simp only [toPy, PyData.eqv, eqv]
          exact eqvs_py n k xs ys ha hb
    | _ => simp_all [toPy, PyData.eqv, eqv, okD]
  | n, _, .dct _, _, ha, _ => by cases n <;> simp [okD] at ha
  | n, _, .dck _, _, ha, _ => by cases n <;> simp [okD] at ha
  | n, _, .opq, _, ha, _ => by cases n <;> simp [okD] at ha
theorem eqvs_py : ∀ (n k : Nat) (a b : List D), okDs n a = true → okDs k b = true → PyData.eqvAll (toPys a) (toPys b) = eqvs a b
  | _, _, [], [], _, _ => by simp [toPys, PyData.eqvAll, eqvs]
  | _, _, [], _ :: _, _, _ => by simp [toPys, PyData.eqvAll, eqvs]
  | _, _, _ :: _, [], _, _ => by simp [toPys, PyData.eqvAll, eqvs]
  | n, k, x :: xs, y :: ys, ha, hb => by
    simp only [okDs, Bool.and_eq_true] at ha hb
    simp only [toPys, PyData.eqvAll, eqvs]
    rw [eqv_py n k x y ha.1 hb.1, eqvs_py n k xs ys ha.2 hb.2]
end

/-! ### numbers -/
def small (b : Nat) (i : Int) : Bool := decide (i.natAbs < 2 ^ b)
def addD : D → D → Option D
  | .int i, .int j => some (.int (i + j))
  | .str a, .str b => if a.length + b.length ≤ 16777216 then some (.str (a ++ b)) else none
  | .lst a, .lst b => if a.length + b.length ≤ 16777216 then some (.lst (a ++ b)) else none
  | .tup a, .tup b => if a.length + b.length ≤ 16777216 then some (.tup (a ++ b)) else none
  | _, _ => none
def subD : D → D → Option D
  | .int i, .int j => some (.int (i - j))
  | _, _ => none
def mulD : D → D → Option D
  | .int i, .int j => if small 63 i || small 63 j || (small 400000 i && small 400000 j) then some (.int (i * j)) else none
  | .lst a, .int k => if decide (a.length * k.toNat ≤ 16777216) && decide (k < 1000000) && decide (-1000000 < k) then some (.lst (List.replicate k.toNat a).flatten) else none
  | .tup a, .int k => if decide (a.length * k.toNat ≤ 16777216) && decide (2 ≤ k) && decide (k < 1000000) && decide (1 ≤ a.length) then some (.tup (List.replicate k.toNat a).flatten) else none
  | _, _ => none
def fdivD : D → D → Option D
  | .int i, .int j => if decide (0 < j) && small 8000 j then some (.int (i / j)) else none
  | _, _ => none
def modD : D → D → Option D
  | .int i, .int j => if 0 < j then some (.int (i % j)) else none
  | _, _ => none
def powD : D → D → Option D
  | .int i, .int j => if decide (0 ≤ j) && decide (j ≤ 1000) && small 60 i then some (.int (i ^ j.toNat)) else none
  | _, _ => none
def negD : D → Option D
  | .int i => some (.int (-i))
  | _ => none
def cmpI (p : Int → Int → Bool) : D → D → Option D
  | .int i, .int j => some (.bl (p i j))
  | _, _ => none
def eqD (a b : D) : Option D := if okD 60 a && okD 60 b then some (.bl (eqv a b)) else none
def neD (a b : D) : Option D := if okD 60 a && okD 60 b then some (.bl (!eqv a b)) else none
def isN : D → Bool
  | .non => true
  | _ => false
def flatD : D → Bool
  | .non => true | .bl _ => true | .int _ => true | .str _ => true | .tup _ => false | .lst _ => false | .dct _ => false | .dck _ => false | .opq => false
/-- the key that a tuple is -/
def keyT : D → Option NestedKey
  | .tup xs => match toNK (.tup xs) with
    | some k => if k.depth ≤ 8 then some k else none
    | none => none
  | _ => none
def keyK : D → Option Key
  | .int i => some (.inl i)
  | .str s => some (.inr ⟨s.toArray⟩)
  | _ => none
def getT {α : Type} (kvs : List (NestedKey × α)) (k : NestedKey) : Option α := (kvs.find? fun kv => decide (kv.1 = k)).map (·.2)
def getK {α : Type} (kvs : List (Key × α)) (k : Key) : Option α := (kvs.find? fun kv => decide (kv.1 = k)).map (·.2)
def setT {α : Type} (kvs : List (NestedKey × α)) (k : NestedKey) (v : α) : List (NestedKey × α) :=
  if (kvs.any fun kv => decide (kv.1 = k)) then kvs.map fun kv => if kv.1 = k then (kv.1, v) else kv else kvs ++ [(k, v)]
def setK {α : Type} (kvs : List (Key × α)) (k : Key) (v : α) : List (Key × α) :=
  if (kvs.any fun kv => decide (kv.1 = k)) then kvs.map fun kv => if kv.1 = k then (kv.1, v) else kv else kvs ++ [(k, v)]
def delT {α : Type} (kvs : List (NestedKey × α)) (k : NestedKey) : List (NestedKey × α) := kvs.filter fun kv => decide (kv.1 ≠ k)
def delK {α : Type} (kvs : List (Key × α)) (k : Key) : List (Key × α) := kvs.filter fun kv => decide (kv.1 ≠ k)
/-- x in y -/
def inD (x : D) : D → Option Bool
  | .str s => match x with
    | .str [c] => some (s.contains c)
    | _ => none
  | .lst ys => if okD 59 x && okDs 59 ys then some (ys.any fun y => eqv y x) else none
  | .tup ys => if flatD x && ys.all flatD then some (ys.any fun y => eqv y x) else none
  | .dct kvs => (keyT x).map fun k => (getT kvs k).isSome
  | .dck kvs => (keyK x).map fun k => (getK kvs k).isSome
  | _ => none
def inB (x y : D) : Option D := (inD x y).map .bl
def notInB (x y : D) : Option D := (inD x y).map fun b => .bl (!b)

/-! ### items, slices -/
def ixD : D → D → Option D
  | .lst xs, .int i => atI xs i
  | .tup xs, .int i => atI xs i
  | .str s, .int i => if s.length ≤ 16777216 then (atI s i).map fun c => .str [c] else none
  | .dct kvs, x => (keyT x).bind fun k => getT kvs k
  | .dck kvs, x => (keyK x).bind fun k => getK kvs k
  | _, _ => none
/-- a place of a slice -/
def cutL {α : Type} (xs : List α) (lo hi : Option Int) : List α := (xs.drop (HT.sIx xs.length 0 lo)).take (HT.sIx xs.length xs.length hi - HT.sIx xs.length 0 lo)
def partD : D → Option (Option Int)
  | .int i => some (some i)
  | .non => some none
  | _ => none
/-- x[lo:hi]; non: left out -/
def sliceD (x : D) (lo hi : Option Int) : Option D := match x with
  | .lst xs => some (.lst (cutL xs lo hi))
  | .tup xs => some (.tup (cutL xs lo hi))
  | .str s => if s.length ≤ 16777216 then some (.str (cutL s lo hi)) else none
  | _ => none
def revD : D → Option D
  | .lst xs => some (.lst xs.reverse)
  | .tup xs => if 2 ≤ xs.length then some (.tup xs.reverse) else none
  | .str s => if s.length ≤ 16777216 then some (.str s.reverse) else none
  | _ => none
def lenD : D → Option D
  | .str s => if s.length ≤ 16777216 then some (.int s.length) else none
  | .lst xs => some (.int xs.length)
  | .tup xs => some (.int xs.length)
  | .dct kvs => some (.int kvs.length)
  | .dck kvs => some (.int kvs.length)
  | _ => none
def truthD : D → Option Bool
  | .non => some false
  | .bl b => some b
  | .int i => some (i != 0)
  | .str s => if s.length ≤ 16777216 then some (!s.isEmpty) else none
  | .lst xs => some (!xs.isEmpty)
  | .tup xs => some (!xs.isEmpty)
  | .dct _ => none
  | .opq => none
  | .dck _ => none
end Dn

set_option Elab.async false
set_option linter.all false
set_option maxRecDepth 100000
set_option maxHeartbeats 2000000
/-! Dn: expressions. -/
namespace Dn
open PySem L2 PyProof.Rows

/-! ### looked at -/
section
variable {B : Bs} {Hk : Hp} {m : List Addr} {F H : Hp} {S : Sto} {v : V} {x : Val}
theorem allD_rels : ∀ {vs : List V} {xs : List Val} {ds : List D}, RelXs B m F vs xs → allD xs = some ds → Rels B F vs ds
  | _, _, _, .nil, e => by simp [allD] at e; subst e; exact .nil
  | _ :: _, .d _ :: xs, _, .cons (.d r) t, e => by
    rw [allD] at e
    cases q : allD xs with
    | none => rw [q] at e; cases e
    | some es => rw [q] at e; cases e; exact .cons r (allD_rels t q)
  | _, _, _, .cons (.r _) _, e => by simp [allD] at e
theorem allDP_ents : ∀ {es : List Ent} {xs : List (NestedKey × Val)} {ds : List (NestedKey × D)}, EntXs B m F es xs → allDP xs = some ds → Ents B F es ds
  | _, _, _, .nil, e => by simp [allDP] at e; subst e; exact .nil
  | _ :: _, (_, .d _) :: xs, _, .cons h1 h0 h2 (.d r) t, e => by
    rw [allDP] at e
    cases q : allDP xs with
    | none => rw [q] at e; cases e
    | some es => rw [q] at e; cases e; exact .cons h1 h0 h2 r (allDP_ents t q)
  | _, _, _, .cons _ _ _ (.r _) _, e => by simp [allDP] at e
theorem allDP_kvs : ∀ {es : List (Key × V)} {xs : List (Key × Val)} {ds : List (Key × D)}, KvXs B m F es xs → allDP xs = some ds → Kvs B F es ds
  | _, _, _, .nil, e => by simp [allDP] at e; subst e; exact .nil
  | _ :: _, (_, .d _) :: xs, _, .cons (.d r) t, e => by
    rw [allDP] at e
    cases q : allDP xs with
    | none => rw [q] at e; cases e
    | some es => rw [q] at e; cases e; exact .cons r (allDP_kvs t q)
  | _, _, _, .cons (.r _) _, e => by simp [allDP] at e
/-- what a value is that is looked at -/
inductive Look (B : Bs) (F H : Hp) : V → D → Prop
  | non : Look B F H .non .non
  | bl (b : Bool) : Look B F H (.bl b) (.bl b)
  | int (i : Int) : Look B F H (.int i) (.int i)
  | str (s : List Nat) : Look B F H (.str ⟨s.toArray⟩) (.str s)
  | tup {a : Addr} {xs : List V} {ds : List D} : SqT B.K F a xs → Rels B F xs ds → Look B F H (.ref a) (.tup ds)
  | lst {a : Addr} {xs : List V} {ds : List D} : Rd H a (.lst xs) → Rels B F xs ds → Look B F H (.ref a) (.lst ds)
  | dct {a : Addr} {o : Obj} {es : List Ent} {kvs : List (NestedKey × D)} : H a = some (dN B.P B.w a o es) → Ents B F es kvs → Look B F H (.ref a) (.dct kvs)
  | dck {a : Addr} {vs : List (Key × V)} {kvs : List (Key × D)} : H a = some (.dK vs) → Kvs B F vs kvs → Look B F H (.ref a) (.dck kvs)
  | opq {a : Addr} : B.xv = some a → Look B F H (.ref a) .opq
theorem Look.of_rel {d : D} (f : Same F H) (r : Rel B F v d) : Look B F H v d := by
  cases r with
  | non => exact .non
  | bl b => exact .bl b
  | int i => exact .int i
  | str s => exact .str s
  | tup q r => exact .tup q r
  | lst q r => exact .lst (Rd.same f q) r
  | dct q r => exact .dct (f _ _ q) r
  | dck q r => exact .dck (f _ _ q) r
  | opq h => exact .opq h
theorem Look.rel {d : D} (f : Same F H) (r : Look B F H v d) : Rel B H v d := by
  cases r with
  | non => exact .non
  | bl b => exact .bl b
  | int i => exact .int i
  | str s => exact .str s
  | tup q r => exact .tup (SqT.same f q) (r.mono f)
  | lst q r => exact .lst q (r.mono f)
  | dct q r => exact .dct q (r.mono f)
  | dck q r => exact .dck q (r.mono f)
  | opq h => exact .opq h
theorem look_cell {a : Addr} {c : Cell} {d : D} (f : Same F H) (h : CellR B m F H a c) (e : cellL c = some d) : Look B F H (.ref a) d := by
  cases c with
  | lst xs =>
    obtain ⟨_, vs, ha, r⟩ := h
    simp only [cellL, cellD, Option.map_eq_some_iff] at e
    obtain ⟨ds, e, rfl⟩ := e
    exact .lst (.inl ha) (allD_rels r e)
  | tup xs => cases e
  | dct kvs =>
    obtain ⟨_, o, es, ha, r⟩ := h
    simp only [cellL, cellD, Option.map_eq_some_iff] at e
    obtain ⟨ds, e, rfl⟩ := e
    exact .dct ha (allDP_ents r e)
  | dck kvs =>
    obtain ⟨_, vs, ha, r⟩ := h
    simp only [cellL, cellD, Option.map_eq_some_iff] at e
    obtain ⟨ds, e, rfl⟩ := e
    exact .dck ha (allDP_kvs r e)
  | obj C fs => cases e
  | frz y =>
    cases e
    exact Look.of_rel f h
  | lck kvs => cases e
theorem get_cell (R : RH B Hk m F S H) {n : Nat} {a : Addr} {c : Cell} (hn : m[n]? = some a) (hc : S[n]? = some c) : CellR B m F H a c := R.cell n a c hn hc
theorem look (R : RH B Hk m F S H) {d : D} (r : RelX B m F v x) (e : asD S x = some d) : Look B F H v d := by
  cases r with
  | d r => cases e; exact Look.of_rel R.froz r
  | r hn =>
    rename_i n a
    simp only [asD] at e
    cases q : S[n]? with
    | none => rw [q] at e; cases e
    | some c => rw [q] at e; exact look_cell R.froz (R.cell n a c hn q) e
/-- the cell frozen -/
theorem keepD (R : RH B Hk m F S H) {d : D} {S' : Sto} (r : RelX B m F v x) (e : toD x S = .ok d S') : ∃ F', RH B Hk m F' S' H ∧ Grow m F H m F' H ∧ Rel B F' v d := by
  cases r with
  | d r =>
    simp only [toD, Out.ok.injEq] at e
    obtain ⟨rfl, rfl⟩ := e
    exact ⟨F, R, Grow.refl _ _ _, r⟩
  | r hn =>
    rename_i n a
    have nz : ∀ c d, S[n]? = some c → cellD c = some d → (∀ y, c ≠ .frz y) → ∃ F', RH B Hk m F' (S.set n (.frz d)) H ∧ Grow m F H m F' H ∧ Rel B F' (.ref a) d := by
      intro c d q e nf
      have hc := R.cell n a c hn q
      have mk : ∀ o : HO, H a = some o → F a = none → Rel B (upd F a o) (.ref a) d → ∃ F', RH B Hk m F' (S.set n (.frz d)) H ∧ Grow m F H m F' H ∧ Rel B F' (.ref a) d := fun o ha fa hr => by
        obtain ⟨h1, h2⟩ := R.freeze hn fa ha hr
        exact ⟨_, h1, h2, hr⟩
      cases c with
      | lst xs =>
        obtain ⟨fa, vs, ha, r⟩ := hc
        simp only [cellD, Option.map_eq_some_iff] at e
        obtain ⟨ds, e, rfl⟩ := e
        exact mk _ ha fa <| .lst (.inl upd_same) ((allD_rels r e).mono (same_own fa))
      | tup xs =>
        obtain ⟨fa, vs, ha, r⟩ := hc
        simp only [cellD, Option.map_eq_some_iff] at e
        obtain ⟨ds, e, rfl⟩ := e
        exact mk _ ha fa <| .tup (SqT.of upd_same) ((allD_rels r e).mono (same_own fa))
      | dct kvs =>
        obtain ⟨fa, o, es, ha, r⟩ := hc
        simp only [cellD, Option.map_eq_some_iff] at e
        obtain ⟨ds, e, rfl⟩ := e
        exact mk _ ha fa <| .dct upd_same ((allDP_ents r e).mono (same_own fa))
      | dck kvs =>
        obtain ⟨fa, vs, ha, r⟩ := hc
        simp only [cellD, Option.map_eq_some_iff] at e
        obtain ⟨ds, e, rfl⟩ := e
        exact mk _ ha fa <| .dck upd_same ((allDP_kvs r e).mono (same_own fa))
      | obj C fs => cases e
      | frz y => exact absurd rfl (nf y)
      | lck kvs => cases e
    simp only [toD] at e
    cases q : S[n]? with
    | none => rw [q] at e; cases e
    | some c =>
      rw [q] at e
      cases c with
      | frz y =>
        simp only [Out.ok.injEq] at e
        obtain ⟨rfl, rfl⟩ := e
        exact ⟨F, R, Grow.refl _ _ _, R.cell n a _ hn q⟩
      | _ =>
        dsimp only at e
        split at e
        · rename_i y hy
          simp only [Out.ok.injEq] at e
          obtain ⟨rfl, rfl⟩ := e
          exact nz _ _ q hy (by intro y h; cases h)
        · cases e
mutual
theorem Rel.dp {B : Bs} {F : Hp} : ∀ (n : Nat) {d : D} {v : V}, Rel B F v d → okD n d = true → Dp B.K F v (toPy d)
  | _, _, _, .non, _ => by rw [toPy]; exact .non
  | _, _, _, .bl b, _ => by rw [toPy]; exact .bl b
  | _, _, _, .int i, _ => by rw [toPy]; exact .int i
  | _, _, _, .str s, _ => by rw [toPy]; exact .str _
  | 0, _, _, .tup _ _, h => by simp [okD] at h
  | n + 1, _, _, .tup q r, h => by rw [okD] at h; rw [toPy]; exact .tup q (Rels.dp n r h)
  | 0, _, _, .lst _ _, h => by simp [okD] at h
  | n + 1, _, _, .lst q r, h => by rw [okD] at h; rw [toPy]; exact .lst (.inl q) (Rels.dp n r h)
  | n, _, _, .dct _ _, h => by cases n <;> simp [okD] at h
  | n, _, _, .dck _ _, h => by cases n <;> simp [okD] at h
  | n, _, _, .opq _, h => by cases n <;> simp [okD] at h
theorem Rels.dp {B : Bs} {F : Hp} : ∀ (n : Nat) {d : List D} {v : List V}, Rels B F v d → okDs n d = true → DpAll B.K F v (toPys d)
  | _, _, _, .nil, _ => by rw [toPys]; exact .nil
  | n, _, _, .cons r1 r2, h => by
    simp only [okDs, Bool.and_eq_true] at h
    rw [toPys]
    exact .cons (Rel.dp n r1 h.1) (Rels.dp n r2 h.2)
end
end

/-! ### results -/
/-- what is asked of a result that is data -/
structure Res (B : Bs) (F H : Hp) (z : D) (Q : VK) : Prop where
  old : ∀ v, Rel B F v z → Q v H
  new0 : ∀ (p : Addr) (u : HO), H p = none → (∀ ps, u ≠ .tbl ps) → Rel B (upd F p u) (.ref p) z → Q (.ref p) (upd H p u)
theorem Res.new {B : Bs} {F H : Hp} {z : D} {Q : VK} (R : Res B F H z Q) (p : Addr) (u : HO) (hp : H p = none) (r : Rel B (upd F p u) (.ref p) z) (ho : ∀ ps, u ≠ .tbl ps := by intro _ h; cases h) : Q (.ref p) (upd H p u) := R.new0 p u hp ho r
theorem res_of {B : Bs} {W : WX} {Hk : Hp} {σ : L2.St} {m : List Addr} {F H : Hp} {S : Sto} {z : D} {Q : VK} (R : RH B Hk m F S H) (h : post B W (relE B) Hk σ m F H (.ok (.d z) S) Q) : Res B F H z Q :=
  ⟨fun v r => h v H m F R (Grow.refl _ _ _) (.d r), fun p u hp ho r => let ⟨R', G⟩ := R.newF (o := u) hp ho; h (.ref p) _ m _ R' G (.d r)⟩
def rd1 (o : D → Option D) : Val → Sto → Out Val := fun x S => match asD S x with
  | some a => Out.of ((o a).map .d) S
  | none => .bad
def rd2 (o : D → D → Option D) : Val → Val → Sto → Out Val := fun x y S => match asD S x, asD S y with
  | some a, some b => Out.of ((o a b).map .d) S
  | _, _ => .bad
def rd3 (o : D → D → D → Option D) : Val → Val → Val → Sto → Out Val := fun x y z S => match asD S x, asD S y, asD S z with
  | some a, some b, some c => Out.of ((o a b c).map .d) S
  | _, _, _ => .bad
@[simp] theorem rd1_d (o : D → Option D) (a : D) (S : Sto) : rd1 o (.d a) S = Out.of ((o a).map .d) S := rfl
@[simp] theorem rd2_d (o : D → D → Option D) (a b : D) (S : Sto) : rd2 o (.d a) (.d b) S = Out.of ((o a b).map .d) S := rfl
@[simp] theorem rd3_d (o : D → D → D → Option D) (a b c : D) (S : Sto) : rd3 o (.d a) (.d b) (.d c) S = Out.of ((o a b c).map .d) S := rfl

section
variable (B : Bs) (W : WX)
def Prim1 (r : V → Hp → VK → Prop) (k : Val → Sto → Out Val) : Prop := ∀ (Hk : Hp) (σ : L2.St) (m : List Addr) (F : Hp) (S : Sto) (H : Hp) (v : V) (x : Val) (Q : VK),
  RH B Hk m F S H → RelX B m F v x → post B W (relE B) Hk σ m F H (k x S) Q → r v H Q
def Prim2 (r : R2) (k : Val → Val → Sto → Out Val) : Prop := ∀ (Hk : Hp) (σ : L2.St) (m : List Addr) (F : Hp) (S : Sto) (H : Hp) (v w : V) (x y : Val) (Q : VK),
  RH B Hk m F S H → RelX B m F v x → RelX B m F w y → post B W (relE B) Hk σ m F H (k x y S) Q → r v w H Q
def PrimA (r : List V → Hp → VK → Prop) (k : List Val → Sto → Out Val) : Prop := ∀ (Hk : Hp) (σ : L2.St) (m : List Addr) (F : Hp) (S : Sto) (H : Hp) (vs : List V) (xs : List Val) (Q : VK),
  RH B Hk m F S H → RelXs B m F vs xs → post B W (relE B) Hk σ m F H (k xs S) Q → r vs H Q
end
section
variable {B : Bs} {W : WX}
theorem prim1_rd {r : V → Hp → VK → Prop} {o : D → Option D} (h : ∀ (F H : Hp) (v : V) (a z : D) (Q : VK), Same F H → Look B F H v a → o a = some z → Res B F H z Q → r v H Q) : Prim1 B W r (rd1 o) := by
  intro Hk σ m F S H v x Q R rx hp
  unfold rd1 at hp
  cases e : asD S x with
  | none => rw [e] at hp; exact False.elim hp
  | some a =>
    rw [e] at hp
    dsimp only at hp
    cases q : o a with
    | none => rw [q] at hp; exact False.elim hp
    | some z =>
      rw [q] at hp
      exact h F H v a z Q R.froz (look R rx e) q (res_of R hp)
theorem prim2_rd {r : R2} {o : D → D → Option D} (h : ∀ (F H : Hp) (v w : V) (a b z : D) (Q : VK), Same F H → Look B F H v a → Look B F H w b → o a b = some z → Res B F H z Q → r v w H Q) : Prim2 B W r (rd2 o) := by
  intro Hk σ m F S H v w x y Q R rx ry hp
  unfold rd2 at hp
  cases e : asD S x with
  | none => rw [e] at hp; exact False.elim hp
  | some a =>
    cases e2 : asD S y with
    | none => rw [e, e2] at hp; exact False.elim hp
    | some b =>
      rw [e, e2] at hp
      dsimp only at hp
      cases q : o a b with
      | none => rw [q] at hp; exact False.elim hp
      | some z =>
        rw [q] at hp
        exact h F H v w a b z Q R.froz (look R rx e) (look R ry e2) q (res_of R hp)
end

/-! ### the parts of an expression -/
def d1 (f : DE) (k : Val → Sto → Out Val) : DE := fun sl S => (f sl S).bind k
def d2 (f g : DE) (k : Val → Val → Sto → Out Val) : DE := fun sl S => (f sl S).bind fun x S1 => (g sl S1).bind fun y S2 => k x y S2
def dA (f : DA) (k : List Val → Sto → Out Val) : DE := fun sl S => (f sl S).bind k
def aNil : DA := fun _ S => .ok [] S
def aCons (f : DE) (g : DA) : DA := fun sl S => (f sl S).bind fun x S1 => (g sl S1).bind fun xs S2 => .ok (x :: xs) S2
theorem den_mono {α γ : Type} {B : Bs} {W : WX} {rel : List Addr → Hp → γ → α → Prop} {f : Sl → Sto → Out α} {σ : L2.St} {H : Hp} {Q Q' : γ → Hp → Prop} (h : den B W rel f σ H Q) (w : ∀ v H, Q v H → Q' v H) : den B W rel f σ H Q' := by
  obtain ⟨Hk, m, F, sl, S, R, R2, q⟩ := h
  refine ⟨Hk, m, F, sl, S, R, R2, ?_⟩
  cases o : f sl S with
  | ok x S' => rw [o] at q; exact fun v H' m' F' R G r => w _ _ (q v H' m' F' R G r)
  | exc c S' => rw [o] at q; exact q
  | bad => rw [o] at q; exact q
theorem den_pure {α γ : Type} {B : Bs} {W : WX} {rel : List Addr → Hp → γ → α → Prop} {Hk : Hp} {σ : L2.St} {m : List Addr} {F H : Hp} {sl : Sl} {S : Sto} {Q : γ → Hp → Prop} {f : Sl → Sto → Out α} {x : α} {v : γ} (R : RH B Hk m F S H) (e : f sl S = .ok x S)
    (q : post B W rel Hk σ m F H (f sl S) Q) (r : rel m F v x) : Q v H := by
  rw [e] at q; exact q v H m F R (Grow.refl _ _ _) r
section
variable {X : Cx} {B : Bs} {W : WX} {e a b : Expr} {es : List Expr} {f g : DE} {fa : DA}
theorem de1 {r : V → Hp → VK → Prop} {k : Val → Sto → Out Val} (h : PE X e (fun σ H Q => denE B W f σ H fun x H1 => r x H1 Q)) (hp : Prim1 B W r k) : PE X e (denE B W (d1 f k)) :=
  PE_weak h fun σ H Q ⟨Hk, m, F, sl, S, R, R2, q⟩ => den_mono (den_step (k := k) R R2 q) fun v H1 ⟨m1, F1, S1, x, R1, R21, G, r1, p⟩ => hp Hk σ m1 F1 S1 H1 v x Q R1 r1 p
theorem de2 {r : R2} {k : Val → Val → Sto → Out Val} (h : PE X e (tOp r (denE B W f) (denE B W g))) (hp : Prim2 B W r k) : PE X e (denE B W (d2 f g k)) :=
  PE_weak h fun σ H Q ⟨Hk, m, F, sl, S, R, R2, q⟩ => den_mono (den_step (k := fun x S1 => (g sl S1).bind fun y S2 => k x y S2) R R2 q) fun v H1 ⟨m1, F1, S1, x, R1, R21, G, r1, p⟩ =>
    den_mono (den_step (k := fun y S2 => k x y S2) R1 R21 p) fun w H2 ⟨m2, F2, S2, y, R3, R23, G2, r2, p2⟩ => hp Hk σ m2 F2 S2 H2 v w x y Q R3 (r1.grow G2) r2 p2
theorem deA {r : List V → Hp → VK → Prop} {k : List Val → Sto → Out Val} (h : PE X e (fun σ H Q => denA B W fa σ H fun x H1 => r x H1 Q)) (hp : PrimA B W r k) : PE X e (denE B W (dA fa k)) :=
  PE_weak h fun σ H Q ⟨Hk, m, F, sl, S, R, R2, q⟩ => den_mono (den_step (k := k) R R2 q) fun v H1 ⟨m1, F1, S1, x, R1, R21, G, r1, p⟩ => hp Hk σ m1 F1 S1 H1 v x Q R1 r1 p
theorem a_nil : PA X [] (denA B W aNil) := PA_weak pa_nil fun σ H Q ⟨Hk, m, F, sl, S, R, R2, q⟩ => den_pure (f := aNil) (sl := sl) (v := []) R rfl q RelXs.nil
theorem a_cons (ha : PE X e (denE B W f)) (hr : PA X es (denA B W fa)) (hs : starEach (e :: es) X.env = (false, eval e X.env) :: starEach es X.env := by rfl) : PA X (e :: es) (denA B W (aCons f fa)) :=
  PA_weak (pa_cons ha hr hs) fun σ H Q ⟨Hk, m, F, sl, S, R, R2, q⟩ => den_mono (den_step (k := fun x S1 => (fa sl S1).bind fun xs S2 => .ok (x :: xs) S2) R R2 q) fun v H1 ⟨m1, F1, S1, x, R1, R21, G, r1, p⟩ =>
    den_mono (den_step (k := fun xs S2 => .ok (x :: xs) S2) R1 R21 p) fun w H2 ⟨m2, F2, S2, y, R3, R23, G2, r2, p2⟩ => p2 _ H2 m2 F2 R3 (Grow.refl _ _ _) (.cons (r1.grow G2) r2)

/-! ### names, constants -/
def dVar (i : Nat) : DE := fun sl S => match sl[i]? with
  | some (some x) => .ok x S
  | _ => .bad
def dC (d : D) : DE := fun _ S => .ok (.d d) S
theorem de_var (i : Nat) {x : Str} {pos : Pos} (hN : X.N[i]? = some x := by rfl) (hv : Vis X.env.scope x := by first | exact Or.inl rfl | exact Or.inr (Or.inl rfl) | exact Or.inr (Or.inr rfl)) (hd : (x == ("__debug__" : Str)) = false := by decide)
    (hcd : (x == ("__classdict__" : Str)) = false := by decide) : PE X (.Name x pos) (denE B W (dVar i)) :=
  PE_weak (pe_var hN hv hd hcd) fun σ H Q ⟨Hk, m, F, sl, S, R, R2, q⟩ => by
    show ∃ v, σ[i]? = some (some v) ∧ Q v H
    cases o : sl[i]? with
    | none => unfold dVar at q; rw [o] at q; exact False.elim q
    | some y =>
      cases y with
      | none => unfold dVar at q; rw [o] at q; exact False.elim q
      | some x =>
        obtain ⟨v, h1, h2⟩ := R2.at_ i x o
        exact ⟨v, h1, den_pure (f := dVar i) (sl := sl) (x := x) R (by unfold dVar; rw [o]) q h2⟩
theorem de_const {d : D} {v : V} (h : PE X e (tC v)) (r : ∀ F, Rel B F v d) : PE X e (denE B W (dC d)) :=
  PE_weak h fun σ H Q ⟨Hk, m, F, sl, S, R, R2, q⟩ => den_pure (f := dC d) (sl := sl) R rfl q (.d (r F))
theorem de_int {i j pos} : PE X (.Constant (.int i) j pos) (denE B W (dC (.int i))) := de_const pe_int fun _ => .int i
theorem de_bl {b j pos} : PE X (.Constant (.bool b) j pos) (denE B W (dC (.bl b))) := de_const pe_bl fun _ => .bl b
theorem de_non {j pos} : PE X (.Constant .none j pos) (denE B W (dC .non)) := de_const pe_non fun _ => .non
theorem rel_str {F : Hp} {x : Str} {s : List Nat} (h : x.cps.toList = s) : Rel B F (.str x) (.str s) := by
  subst h
  obtain ⟨⟨l⟩⟩ := x
  exact .str l
theorem de_str {x j pos} (s : List Nat) (h : x.cps.toList = s := by decide +kernel) : PE X (.Constant (.str x) j pos) (denE B W (dC (.str s))) := de_const pe_str fun _ => rel_str h
theorem de_glob {x : Str} {v : V} {u : Value} {pos : Pos} {d : D} (hg : Gl X x) (hm : X.mg x = some u) (r : RelV v u) (hd : ∀ F, Rel B F v d) (hdb : (x == ("__debug__" : Str)) = false := by decide) : PE X (.Name x pos) (denE B W (dC d)) := de_const (pe_glob hg hm r hdb) hd
end

/-! ### operators -/
section
variable {X : Cx} {B : Bs} {W : WX}
theorem str_app (a b : List Nat) : (⟨a.toArray⟩ : Str) ++ ⟨b.toArray⟩ = ⟨(a ++ b).toArray⟩ := by
  show Str.mk (a.toArray ++ b.toArray) = _
  simp
theorem str_len (a : List Nat) : (⟨a.toArray⟩ : Str).length = a.length := by simp [Str.length]
theorem szl : sizeLine = 16777216 := sizeLine_eq
def rCatR : R2 := fun x y H Q => ∃ l b xs zs, x = .ref l ∧ y = .ref b ∧ Rd H l (.lst xs) ∧ Rd H b (.lst zs) ∧ xs.length + zs.length ≤ sizeLine ∧ ∀ p, H p = none → Q (.ref p) (upd H p (.lst (xs ++ zs)))
theorem op_catR : OpR X (binaryOp .Add) rCatR := by
  intro pins s σ H x y v u Q I rx ry h
  obtain ⟨l, b, xs, zs, rfl, rfl, hH, hB, hz, q⟩ := h
  cases rx
  cases ry
  obtain ⟨z, its, n, r, e⟩ := hH.ok I.hok
  obtain ⟨z2, its2, n2, r2, e2⟩ := hB.ok I.hok
  have hl := r.length
  have hl2 := r2.length
  refine PySem.P.add_list e e2 ?_ (by rw [List.size_toArray, List.size_toArray]; omega)
  have ea : its.toArray ++ its2.toArray = (its ++ its2).toArray := by simp
  rw [ea]
  exact ⟨.ref _, _, I.lnew (t' := s.toks) (r.append r2) (by rw [List.length_append]; omega), rfl, q _ I.fresh⟩
def rAddAll (K : PySem.W.Frag) : R2 := fun x y H Q => rI0 (fun i j => .int (i + j)) x y H Q ∨ (∃ i j, x = .str i ∧ y = .str j ∧ i.length + j.length ≤ sizeLine ∧ Q (.str (i ++ j)) H) ∨ rCatR x y H Q ∨ rCatA K x y H Q
theorem op_addAll : OpR X (binaryOp .Add) (rAddAll X.K) := op_add.or (op_add_str.or (op_catR.or op_catA))
theorem p_add (hK : B.K = X.K) : Prim2 B W (rAddAll X.K) (rd2 addD) := prim2_rd fun F H v w a b z Q f l1 l2 e R => by
  cases l1 with
  | int i =>
    cases l2 with
    | int j => simp only [addD, Option.some.injEq] at e; subst e; exact .inl ⟨i, j, rfl, rfl, R.old _ (.int _)⟩
    | _ => simp [addD] at e
  | str s =>
    cases l2 with
    | str t =>
      simp only [addD] at e
      split at e
      · rename_i hz
        cases e
        refine .inr (.inl ⟨_, _, rfl, rfl, by rw [str_len, str_len, szl]; exact hz, ?_⟩)
        rw [str_app]
        exact R.old _ (.str _)
      · cases e
    | _ => simp [addD] at e
  | lst q1 r1 =>
    cases l2 with
    | lst q2 r2 =>
      simp only [addD] at e
      split at e
      · rename_i hz
        cases e
        refine .inr (.inr (.inl ⟨_, _, _, _, rfl, rfl, q1, q2, by rw [r1.len, r2.len, szl]; exact hz, fun p hp => R.new p _ hp ?_⟩))
        exact .lst (.inl upd_same) ((r1.append r2).mono (same_own (f.free hp)))
      · cases e
    | _ => simp [addD] at e
  | tup q1 r1 =>
    cases l2 with
    | tup q2 r2 =>
      rename_i a xs ds b ys es
      simp only [addD] at e
      split at e
      · rename_i hz
        cases e
        refine .inr (.inr (.inr ⟨_, _, _, _, rfl, rfl, hK ▸ SqT.same f q1, hK ▸ SqT.same f q2, by rw [r1.len, r2.len, szl]; exact hz, fun h => ?_, fun _ h => ?_, fun _ _ p hp => R.new p _ hp ?_⟩))
        · have : ds = [] := by have := r1.len; rw [h] at this; simpa using this.symm
          subst this
          exact R.old _ (Rel.tup q2 r2)
        · have : es = [] := by have := r2.len; rw [h] at this; simpa using this.symm
          subst this
          rw [List.append_nil] at R
          exact R.old _ (Rel.tup q1 r1)
        · exact .tup (SqT.of upd_same) ((r1.append r2).mono (same_own (f.free hp)))
      · cases e
    | _ => simp [addD] at e
  | _ => cases b <;> simp [addD] at e
end
end Dn

set_option Elab.async false
set_option linter.all false
set_option maxRecDepth 100000
set_option maxHeartbeats 2000000
/-! Dn: operators, comparisons, tests. -/
namespace Dn
open PySem L2 PyProof.Rows

/-- the layer's facts are the context's -/
structure BX (B : Bs) (X : Cx) : Prop where
  P : B.P = X.prog
  w : B.w = X.w
  K : B.K = X.K
  mg : B.mg = X.mg

/-! ### numbers -/
section
variable {X : Cx} {B : Bs} {W : WX}
theorem p_sub : Prim2 B W (rI0 fun i j => .int (i - j)) (rd2 subD) := prim2_rd fun F H v w a b z Q f l1 l2 e R => by
  cases l1 <;> cases l2 <;> simp only [subD, reduceCtorEq, Option.some.injEq] at e
  subst e; exact ⟨_, _, rfl, rfl, R.old _ (.int _)⟩
def rMulAll (K : PySem.W.Frag) : R2 := fun x y H Q => rI CMul (fun i j => .int (i * j)) x y H Q ∨ rI CMulW (fun i j => .int (i * j)) x y H Q
theorem op_mulAll : OpR X (binaryOp .Mult) (rMulAll X.K) := op_mul.or op_mulW
theorem small_63 {i : Int} (h : small 63 i = true) : -(2 ^ 64) < i ∧ i < 2 ^ 64 := by
  have h : i.natAbs < 2 ^ 63 := of_decide_eq_true h
  omega
theorem p_mul (K : PySem.W.Frag) : Prim2 B W (rMulAll K) (rd2 fun a b => match a, b with | .int _, .int _ => mulD a b | _, _ => none) := prim2_rd fun F H v w a b z Q f l1 l2 e R => by
  cases l1 with
  | int i =>
    cases l2 with
    | int j =>
      simp only [mulD, Bool.or_eq_true, Bool.and_eq_true] at e
      split at e
      · rename_i hz
        cases e
        rcases hz with (hz | hz) | hz
        · exact .inl ⟨i, j, rfl, rfl, .inl (small_63 hz), R.old _ (.int _)⟩
        · exact .inl ⟨i, j, rfl, rfl, .inr (small_63 hz), R.old _ (.int _)⟩
        · exact .inr ⟨i, j, rfl, rfl, wide_mul (of_decide_eq_true hz.1) (of_decide_eq_true hz.2) (by decide) (by decide) (by decide), R.old _ (.int _)⟩
      · cases e
    | _ => simp at e
  | _ => simp at e
theorem p_fdiv : Prim2 B W (rI CDivW fun i j => .int (i / j)) (rd2 fdivD) := prim2_rd fun F H v w a b z Q f l1 l2 e R => by
  cases l1 with
  | int i =>
    cases l2 with
    | int j =>
      simp only [fdivD, Bool.and_eq_true, decide_eq_true_eq] at e
      split at e
      · rename_i hz
        cases e
        exact ⟨i, j, rfl, rfl, wide_div hz.1 (of_decide_eq_true hz.2) (by decide) (by decide), R.old _ (.int _)⟩
      · cases e
    | _ => simp [fdivD] at e
  | _ => simp [fdivD] at e
theorem p_mod : Prim2 B W (rI (fun _ j => 0 < j) fun i j => .int (i % j)) (rd2 modD) := prim2_rd fun F H v w a b z Q f l1 l2 e R => by
  cases l1 with
  | int i =>
    cases l2 with
    | int j =>
      simp only [modD] at e
      split at e
      · rename_i hz
        cases e
        exact ⟨i, j, rfl, rfl, hz, R.old _ (.int _)⟩
      · cases e
    | _ => simp [modD] at e
  | _ => simp [modD] at e
theorem p_pow : Prim2 B W (rI CPow fun i j => .int (i ^ j.toNat)) (rd2 powD) := prim2_rd fun F H v w a b z Q f l1 l2 e R => by
  cases l1 with
  | int i =>
    cases l2 with
    | int j =>
      simp only [powD, Bool.and_eq_true, decide_eq_true_eq] at e
      split at e
      · rename_i hz
        cases e
        have h3 : i.natAbs < 2 ^ 60 := of_decide_eq_true hz.2
        exact ⟨i, j, rfl, rfl, ⟨hz.1.1, by omega, by omega⟩, R.old _ (.int _)⟩
      · cases e
    | _ => simp [powD] at e
  | _ => simp [powD] at e
theorem p_neg : Prim1 B W (rU fun i => .int (-i)) (rd1 negD) := prim1_rd fun F H v a z Q f l e R => by
  cases l <;> simp only [negD, reduceCtorEq, Option.some.injEq] at e
  subst e; exact ⟨_, rfl, R.old _ (.int _)⟩
theorem p_cmp {p : Int → Int → Bool} : Prim2 B W (rI0 fun i j => .bl (p i j)) (rd2 (cmpI p)) := prim2_rd fun F H v w a b z Q f l1 l2 e R => by
  cases l1 <;> cases l2 <;> simp only [cmpI, reduceCtorEq, Option.some.injEq] at e
  subst e; exact ⟨_, _, rfl, rfl, R.old _ (.bl _)⟩
def dLt : D → D → Option D := cmpI fun i j => decide (i < j)
def dLe : D → D → Option D := cmpI fun i j => decide (i ≤ j)
def dGt : D → D → Option D := cmpI fun i j => decide (j < i)
def dGe : D → D → Option D := cmpI fun i j => decide (j ≤ i)

/-! ### equality, in -/
theorem shaped_of {d : D} (h : okD 60 d = true) : SeqAt.shaped (toPy d) = true := by
  obtain ⟨h1, h2⟩ := okD_lay 60 d h
  show ((toPy d).canLay0 && decide ((toPy d).depth ≤ 64)) = true
  rw [Bool.and_eq_true]
  exact ⟨h1, decide_eq_true (by omega)⟩
theorem p_eq (hB : BX B X) : Prim2 B W (rEqD X.K) (rd2 eqD) := prim2_rd fun F H v w a b z Q f l1 l2 e R => by
  simp only [eqD, Bool.and_eq_true] at e
  split at e
  · rename_i hz
    cases e
    refine ⟨_, _, hB.K ▸ (l1.rel f).dp 60 hz.1, hB.K ▸ (l2.rel f).dp 60 hz.2, shaped_of hz.1, shaped_of hz.2, ?_⟩
    rw [eqv_py 60 60 a b hz.1 hz.2]
    exact R.old _ (.bl _)
  · cases e
theorem p_ne (hB : BX B X) : Prim2 B W (rNeD X.K) (rd2 neD) := prim2_rd fun F H v w a b z Q f l1 l2 e R => by
  simp only [neD, Bool.and_eq_true] at e
  split at e
  · rename_i hz
    cases e
    refine ⟨_, _, hB.K ▸ (l1.rel f).dp 60 hz.1, hB.K ▸ (l2.rel f).dp 60 hz.2, shaped_of hz.1, shaped_of hz.2, ?_⟩
    rw [eqv_py 60 60 a b hz.1 hz.2]
    exact R.old _ (.bl _)
  · cases e
theorem flat_rel {F : Hp} {v : V} {d : D} (h : Rel B F v d) (hf : flatD d = true) : flatV v = true := by
  cases h <;> first | rfl | cases hf
theorem flat_eqv {F : Hp} {v w : V} {d e : D} (h : Rel B F v d) (h2 : Rel B F w e) (hf : flatD d = true) (hf2 : flatD e = true) : eqV v w = eqv d e := by
  cases h <;> first | (cases hf; done) | (cases h2 <;> first | (cases hf2; done) | (simp only [eqV, eqv]; done) | (simp only [eqV, eqv]; exact beq_arr _ _))
theorem flat_any {F : Hp} {w : V} {e : D} (h2 : Rel B F w e) (hf2 : flatD e = true) : ∀ {vs : List V} {ds : List D}, Rels B F vs ds → ds.all flatD = true → vs.all flatV = true ∧ inV w vs = ds.any fun y => eqv y e
  | _, _, .nil, _ => ⟨rfl, rfl⟩
  | _, _, .cons r t, h => by
    rw [List.all_cons, Bool.and_eq_true] at h
    obtain ⟨h3, h4⟩ := flat_any h2 hf2 t h.2
    refine ⟨by rw [List.all_cons, flat_rel r h.1, h3]; rfl, ?_⟩
    unfold inV at h4 ⊢
    rw [List.any_cons, List.any_cons, h4, flat_eqv r h2 h.1 hf2]
mutual
theorem nk_is {pins : List (Addr × Obj)} {σ : L2.St} {H : Hp} {s : Shared} (hB : BX B X) (I : Inv X pins σ H s) : ∀ (k : NestedKey) {v : V} {u : Value}, Rel B H v (ofNK k) → RelV v u → NestedIs s.heap k u
  | .none, _, _, h, r => by rw [ofNK] at h; cases h; cases r; exact .none
  | .num i, _, _, h, r => by rw [ofNK] at h; cases h; obtain ⟨t, rfl⟩ := r; exact .int i t
  | .text x, _, _, h, r => by
    rw [ofNK] at h
    generalize hx : x.cps.toList = l at h
    cases h
    obtain ⟨t, rfl⟩ := r
    have e : (⟨l.toArray⟩ : Str) = x := by subst hx; obtain ⟨⟨l⟩⟩ := x; rfl
    rw [e]
    exact .text x t
  | .tup ks, _, _, h, r => by
    rw [ofNK] at h
    cases h with
    | tup q rs =>
      cases r
      obtain ⟨its, rv, ⟨o, ho, hc, n, hd⟩, _⟩ := I.tuple (hB.K ▸ q)
      exact .tup ho hc hd (by simpa using nks_is hB I ks rs rv)
theorem nks_is {pins : List (Addr × Obj)} {σ : L2.St} {H : Hp} {s : Shared} (hB : BX B X) (I : Inv X pins σ H s) : ∀ (ks : List NestedKey) {v : List V} {u : List Value}, Rels B H v (ofNKs ks) → Vals v u → NestedAll s.heap ks u
  | [], _, _, h, r => by rw [ofNKs] at h; cases h; cases r; exact .nil
  | k :: ks, _, _, h, r => by
    rw [ofNKs] at h
    cases h with
    | cons h1 h2 =>
      cases r with
      | cons r1 r2 => exact .cons (nk_is hB I k h1 r1) (nks_is hB I ks h2 r2)
end
theorem key_is {pins : List (Addr × Obj)} {σ : L2.St} {H : Hp} {s : Shared} (hB : BX B X) (I : Inv X pins σ H s) {k : NestedKey} {q : Addr} (h : Rel B H (.ref q) (ofNK k)) (hd : k.depth ≤ 8) : (nestedKind X.prog X.w).is s.heap k q := ⟨nk_is hB I k h rfl, hd⟩
theorem Ents.keys {H : Hp} : ∀ {es : List Ent} {kvs : List (NestedKey × D)}, Ents B H es kvs → ∀ x ∈ es, Rel B H (.ref x.2.1) (ofNK x.1) ∧ x.1.depth ≤ 8
  | _, _, .nil, _, h => by cases h
  | _, _, .cons h1 h2 _ _ t, x, h => by
    rcases List.mem_cons.mp h with rfl | h
    · exact ⟨h1, h2⟩
    · exact Ents.keys t x h
theorem EntXs.keys {m : List Addr} {F : Hp} : ∀ {es : List Ent} {kvs : List (NestedKey × Val)}, EntXs B m F es kvs → ∀ x ∈ es, Rel B F (.ref x.2.1) (ofNK x.1) ∧ x.1.depth ≤ 8
  | _, _, .nil, _, h => by cases h
  | _, _, .cons h1 h2 _ _ t, x, h => by
    rcases List.mem_cons.mp h with rfl | h
    · exact ⟨h1, h2⟩
    · exact EntXs.keys t x h
/-- the dict as the library tells it -/
theorem dN_at {pins : List (Addr × Obj)} {σ : L2.St} {H : Hp} {s : Shared} (hB : BX B X) (I : Inv X pins σ H s) {a : Addr} {o : Obj} {es : List Ent} (h : H a = some (dN B.P B.w a o es)) (hk : ∀ x ∈ es, Rel B H (.ref x.2.1) (ofNK x.1) ∧ x.1.depth ≤ 8) :
    s.heap.DictOfH (nestedKind X.prog X.w) a es ∧ (a == sysModules) = false ∧ es.length ≤ sizeLine := by
  obtain ⟨⟨h1, h2, h3, es', ep, h4, h5, h6, h7⟩, _⟩ := I.hok a _ h
  refine ⟨⟨o, es', ep, h1, h4, h5, ?_, fun x hx => key_is hB I (hk x hx).1 (hk x hx).2, h7⟩, h2, h3⟩
  rw [h6, hB.P, hB.w]
theorem Ents.get {H : Hp} {k : NestedKey} : ∀ {es : List Ent} {kvs : List (NestedKey × D)}, Ents B H es kvs → (∀ d, getT kvs k = some d → ∃ q u v, atKey es k = some (q, u) ∧ RelV v u ∧ Rel B H v d) ∧ (getT kvs k = none → atKey es k = none)
  | _, _, .nil => ⟨fun _ e => by simp [getT] at e, fun _ => rfl⟩
  | _, _, .cons (k := k') (q := q') (u := u') (v := v') (d := d') h1 h2 h3 h4 t => by
    obtain ⟨i1, i2⟩ := Ents.get (k := k) t
    by_cases e : k' = k
    · subst e
      refine ⟨fun d h => ?_, fun h => ?_⟩
      · simp [getT] at h
        subst h
        exact ⟨q', u', v', by simp [atKey], h3, h4⟩
      · simp [getT] at h
    · have g : ∀ l : List (NestedKey × D), getT ((k', d') :: l) k = getT l k := fun l => by simp [getT, e]
      have g2 : ∀ (z : Addr × Value) (l : List Ent), atKey ((k', z) :: l) k = atKey l k := fun z l => by simp [atKey, e]
      rw [g]
      refine ⟨fun d h => ?_, fun h => ?_⟩
      · obtain ⟨q, u, v, a, b⟩ := i1 d h
        exact ⟨q, u, v, by rw [g2]; exact a, b⟩
      · rw [g2]; exact i2 h
theorem Ents.mem {H : Hp} {k : NestedKey} {es : List Ent} {kvs : List (NestedKey × D)} (h : Ents B H es kvs) : (atKey es k).isSome = (getT kvs k).isSome := by
  obtain ⟨h1, h2⟩ := h.get (k := k)
  cases e : getT kvs k with
  | none => rw [h2 e]; rfl
  | some d => obtain ⟨q, u, v, a, _⟩ := h1 d e; rw [a]; rfl
mutual
theorem nk_of {F : Hp} {v : V} : ∀ (x : D) (k : NestedKey), toNK x = some k → Rel B F v x → Rel B F v (ofNK k)
  | .int i, k, e, h => by simp only [toNK, Option.some.injEq] at e; subst e; exact h
  | .str s, k, e, h => by simp only [toNK, Option.some.injEq] at e; subst e; simpa [ofNK] using h
  | .tup xs, k, e, h => by
    rw [toNK] at e
    cases q : toNKs xs with
    | none => rw [q] at e; cases e
    | some ks =>
      rw [q] at e
      cases e
      cases h with
      | tup h1 h2 => rw [ofNK]; exact .tup h1 (nks_of xs ks q h2)
  | .non, _, e, _ => by simp [toNK] at e
  | .bl _, _, e, _ => by simp [toNK] at e
  | .lst _, _, e, _ => by simp [toNK] at e
  | .dct _, _, e, _ => by simp [toNK] at e
  | .dck _, _, e, _ => by simp [toNK] at e
  | .opq, _, e, _ => by simp [toNK] at e
theorem nks_of {F : Hp} {v : List V} : ∀ (x : List D) (k : List NestedKey), toNKs x = some k → Rels B F v x → Rels B F v (ofNKs k)
  | [], k, e, h => by simp only [toNKs, Option.some.injEq] at e; subst e; rw [ofNKs]; exact h
  | x :: xs, k, e, h => by
    rw [toNKs] at e
    cases q : toNK x with
    | none => rw [q] at e; cases e
    | some k1 =>
      cases q2 : toNKs xs with
      | none => rw [q, q2] at e; cases e
      | some ks =>
        rw [q, q2] at e
        cases e
        cases h with
        | cons h1 h2 => rw [ofNKs]; exact .cons (nk_of x k1 q h1) (nks_of xs ks q2 h2)
end
theorem keyT_of {F : Hp} {v : V} {x : D} {k : NestedKey} (e : keyT x = some k) (h : Rel B F v x) : ∃ q, v = .ref q ∧ Rel B F (.ref q) (ofNK k) ∧ k.depth ≤ 8 := by
  cases x with
  | tup xs =>
    simp only [keyT] at e
    cases q : toNK (.tup xs) with
    | none => rw [q] at e; cases e
    | some k' =>
      rw [q] at e
      dsimp only at e
      split at e
      · rename_i hd
        cases e
        cases h with
        | tup h1 h2 => exact ⟨_, rfl, nk_of _ _ q (.tup h1 h2), hd⟩
      · cases e
  | _ => simp [keyT] at e
/-- in a dict with tuple keys -/
def rInN (B : Bs) (neg : Bool) : R2 := fun x y H Q => ∃ q a o es kvs k, x = .ref q ∧ y = .ref a ∧ H a = some (dN B.P B.w a o es) ∧ Ents B H es kvs ∧ Rel B H (.ref q) (ofNK k) ∧ k.depth ≤ 8 ∧ Q (.bl (if neg then !(getT kvs k).isSome else (getT kvs k).isSome)) H
theorem op_inN (hB : BX B X) (hu : X.A.units + 100 < cLine) : OpR X (compareOp .In) (rInN B false) := by
  intro pins s σ H x y v u Q I rx ry h
  obtain ⟨q, a, o, es, kvs, k, rfl, rfl, ha, he, hk, hd, hq⟩ := h
  cases rx
  cases ry
  obtain ⟨h1, h2, h3⟩ := dN_at hB I ha he.keys
  exact wpAny_in_heap (knd := nestedKind X.prog X.w) (by show X.A.units + 1 + 8 < cLine; omega) (key_is hB I hk hd) h2 h1 ⟨.bl _, H, I.tok _, rfl, by rw [he.mem]; exact hq⟩
theorem op_notInN (hB : BX B X) (hu : X.A.units + 100 < cLine) : OpR X (compareOp .NotIn) (rInN B true) := by
  intro pins s σ H x y v u Q I rx ry h
  obtain ⟨q, a, o, es, kvs, k, rfl, rfl, ha, he, hk, hd, hq⟩ := h
  cases rx
  cases ry
  obtain ⟨h1, h2, h3⟩ := dN_at hB I ha he.keys
  show wpAny _ _ (do return Value.bool (!(← contains (.ref a) (.ref q)))) _ _ s
  exact wpAny_bind (wpAny_contains_heap (knd := nestedKind X.prog X.w) (by show X.A.units + 1 + 8 < cLine; omega) (key_is hB I hk hd) h2 h1 (wpAny_pure ⟨.bl _, H, I.tok _, rfl, by rw [he.mem]; exact hq⟩))
end
end Dn

set_option Elab.async false
set_option linter.all false
set_option maxRecDepth 100000
set_option maxHeartbeats 2000000
/-! Dn: in, subscripts, slices, len, truth, tests, displays. -/
namespace Dn
open PySem L2 PyProof.Rows

section
variable {X : Cx} {B : Bs} {W : WX}
/-! ### in -/
def rInKd (neg : Bool) : R2 := fun x y H Q => ∃ a o, y = .ref a ∧ DGet H a x o ∧ Q (.bl (if neg then !o.isSome else o.isSome)) H
theorem op_inKd (hu : X.A.units + 100 < cLine) : OpR X (compareOp .In) (rInKd false) := by
  intro pins s σ H x y v u Q I rx ry h
  obtain ⟨a, o, rfl, g, q⟩ := h
  cases ry
  exact d_in (by omega) I g rx fun s3 I3 => ⟨.bl _, H, I3, rfl, q⟩
theorem op_notInKd (hu : X.A.units + 100 < cLine) : OpR X (compareOp .NotIn) (rInKd true) := by
  intro pins s σ H x y v u Q I rx ry h
  obtain ⟨a, o, rfl, g, q⟩ := h
  cases ry
  exact d_notIn (by omega) I g rx fun s3 I3 => ⟨.bl _, H, I3, rfl, q⟩
def rSign (neg : Bool) : R2 := fun x y H Q => ∃ (c : Nat) (z : Str), x = .str ⟨#[c]⟩ ∧ y = .str z ∧ Q (.bl (if neg then !decide (c ∈ z.cps.toList) else decide (c ∈ z.cps.toList))) H
def rInLs (K : PySem.W.Frag) (neg : Bool) : R2 := fun x y H Q => ∃ d ds, Dp K H x d ∧ Dp K H y (.list ds) ∧ SeqAt.shaped d = true ∧ SeqAt.shaped (.list ds) = true ∧ Q (.bl (if neg then !(ds.any fun z => PyData.eqv z d) else ds.any fun z => PyData.eqv z d)) H
def rInAll (B : Bs) (K : PySem.W.Frag) (neg : Bool) : R2 := fun x y H Q => rSign neg x y H Q ∨ rIn K neg x y H Q ∨ rInLs K neg x y H Q ∨ rInN B neg x y H Q ∨ rInKd neg x y H Q
theorem op_inAll (hB : BX B X) (hu : X.A.units + 100 < cLine) : OpR X (compareOp .In) (rInAll B X.K false) :=
  OpR.or op_in_sign (OpR.or op_in_seq (OpR.or (op_inD (by omega)) (OpR.or (op_inN hB hu) (op_inKd hu))))
theorem op_notInAll (hB : BX B X) (hu : X.A.units + 100 < cLine) : OpR X (compareOp .NotIn) (rInAll B X.K true) :=
  OpR.or op_notIn_sign (OpR.or op_notIn_seq (OpR.or (op_notInD (by omega)) (OpR.or (op_notInN hB hu) (op_notInKd hu))))
theorem Kvs.get {H : Hp} {k : Key} : ∀ {vs : List (Key × V)} {kvs : List (Key × D)}, Kvs B H vs kvs → (∀ d, getK kvs k = some d → ∃ v, valV vs k = some v ∧ Rel B H v d) ∧ (getK kvs k = none → valV vs k = none)
  | _, _, .nil => ⟨fun _ e => by simp [getK] at e, fun _ => rfl⟩
  | _, _, .cons (k := k') (v := v') (d := d') h4 t => by
    obtain ⟨i1, i2⟩ := Kvs.get (k := k) t
    by_cases e : k' = k
    · subst e
      refine ⟨fun d h => ?_, fun h => ?_⟩
      · simp [getK] at h
        subst h
        exact ⟨v', by simp [valV], h4⟩
      · simp [getK] at h
    · have g : ∀ l : List (Key × D), getK ((k', d') :: l) k = getK l k := fun l => by simp [getK, e]
      have g2 : ∀ (l : List (Key × V)), valV ((k', v') :: l) k = valV l k := fun l => by simp [valV, e]
      rw [g]
      refine ⟨fun d h => ?_, fun h => ?_⟩
      · obtain ⟨v, a, b⟩ := i1 d h
        exact ⟨v, by rw [g2]; exact a, b⟩
      · rw [g2]; exact i2 h
theorem Kvs.mem {H : Hp} {k : Key} {vs : List (Key × V)} {kvs : List (Key × D)} (h : Kvs B H vs kvs) : (valV vs k).isSome = (getK kvs k).isSome := by
  obtain ⟨h1, h2⟩ := h.get (k := k)
  cases e : getK kvs k with
  | none => rw [h2 e]; rfl
  | some d => obtain ⟨v, a, _⟩ := h1 d e; rw [a]; rfl
theorem keyK_of {F : Hp} {v : V} {x : D} {k : Key} (e : keyK x = some k) (h : Rel B F v x) : v = kV k := by
  cases x <;> simp only [keyK, reduceCtorEq, Option.some.injEq] at e <;> subst e <;> cases h <;> rfl
theorem look_in (hB : BX B X) {F H : Hp} {v w : V} {a b : D} {c : Bool} {neg : Bool} {Q : VK} (f : Same F H) (l1 : Look B F H v a) (l2 : Look B F H w b) (e : inD a b = some c) (q : Q (.bl (if neg then !c else c)) H) : rInAll B X.K neg v w H Q := by
  have r1 := l1.rel f
  cases l2 with
  | str s =>
    cases l1 with
    | str t =>
      match t, e with
      | [c1], e =>
        simp only [inD, Option.some.injEq] at e
        subst e
        refine .inl ⟨c1, _, rfl, rfl, ?_⟩
        have : decide (c1 ∈ (⟨s.toArray⟩ : Str).cps.toList) = s.contains c1 := by simp
        rw [this]; exact q
      | [], e => simp [inD] at e
      | _ :: _ :: _, e => simp [inD] at e
    | _ => simp [inD] at e
  | tup q2 r2 =>
    simp only [inD] at e
    split at e
    · rename_i hz
      cases e
      rw [Bool.and_eq_true] at hz
      obtain ⟨h3, h4⟩ := flat_any (B := B) r1 hz.1 (r2.mono f) hz.2
      refine .inr (.inl ⟨_, _, rfl, .inr (hB.K ▸ SqT.same f q2), flat_rel r1 hz.1, h3, ?_⟩)
      rw [h4]; exact q
    · cases e
  | lst q2 r2 =>
    rename_i p xs ds
    simp only [inD] at e
    split at e
    · rename_i hz
      cases e
      rw [Bool.and_eq_true] at hz
      have o1 : okD 60 a = true := okD_mono _ _ hz.1
      have o2 : okD 60 (.lst ds) = true := by rw [okD]; exact hz.2
      have hd : Dp X.K H (.ref p) (toPy (.lst ds)) := hB.K ▸ (Rel.lst (B := B) q2 (r2.mono f)).dp 60 o2
      rw [toPy] at hd
      have hs := shaped_of o2
      rw [toPy] at hs
      refine .inr (.inr (.inl ⟨_, _, hB.K ▸ r1.dp 60 o1, hd, shaped_of o1, hs, ?_⟩))
      have e2 : ((toPys ds).any fun z => PyData.eqv z (toPy a)) = ds.any fun y => eqv y a := by
        have h2 := hz.2
        clear hd hs q2 r2 o2 q hz
        induction ds with
        | nil => simp [toPys]
        | cons d ds ih =>
          simp only [okDs, Bool.and_eq_true] at h2
          simp only [toPys, List.any_cons]
          rw [eqv_py 59 60 d a h2.1 o1, ih h2.2]
      rw [e2]; exact q
    · cases e
  | dct q2 r2 =>
    simp only [inD, Option.map_eq_some_iff] at e
    obtain ⟨k, hk, rfl⟩ := e
    obtain ⟨qq, rfl, h3, h4⟩ := keyT_of hk r1
    exact .inr (.inr (.inr (.inl ⟨_, _, _, _, _, k, rfl, rfl, q2, r2.mono f, h3, h4, q⟩)))
  | dck q2 r2 =>
    simp only [inD, Option.map_eq_some_iff] at e
    obtain ⟨k, hk, rfl⟩ := e
    have := keyK_of hk r1
    subst this
    refine .inr (.inr (.inr (.inr ⟨_, _, rfl, DGet.k q2, ?_⟩)))
    rw [r2.mem]; exact q
  | _ => simp [inD] at e
theorem p_in (hB : BX B X) : Prim2 B W (rInAll B X.K false) (rd2 inB) := prim2_rd fun F H v w a b z Q f l1 l2 e R => by
  simp only [inB, Option.map_eq_some_iff] at e
  obtain ⟨c, e, rfl⟩ := e
  exact look_in hB f l1 l2 e (R.old _ (.bl _))
theorem p_notIn (hB : BX B X) : Prim2 B W (rInAll B X.K true) (rd2 notInB) := prim2_rd fun F H v w a b z Q f l1 l2 e R => by
  simp only [notInB, Option.map_eq_some_iff] at e
  obtain ⟨c, e, rfl⟩ := e
  exact look_in hB f l1 l2 e (R.old _ (.bl _))

/-! ### subscripts -/
def rIxN (B : Bs) : R2 := fun x y H Q => ∃ q a o es kvs k v d, x = .ref a ∧ y = .ref q ∧ H a = some (dN B.P B.w a o es) ∧ Ents B H es kvs ∧ Rel B H (.ref q) (ofNK k) ∧ k.depth ≤ 8 ∧ getT kvs k = some d ∧ (∃ u, u ∈ es.map (·.2.2) ∧ RelV v u) ∧ (∀ u, atKey es k = some u → RelV v u.2) ∧ Q v H
theorem ix_N (hB : BX B X) (hu : X.A.units + 100 < cLine) : IxR X (rIxN B) := by
  intro value slice pins s σ H x y v u Q I rx ry h hs
  obtain ⟨q, a, o, es, kvs, k, v', d, rfl, rfl, ha, he, hk, hd, hg, _, hv, hq⟩ := h
  cases rx
  cases ry
  obtain ⟨h1, h2, h3⟩ := dN_at hB I ha he.keys
  obtain ⟨q', u', v2, e1, e2, e3⟩ := he.get.1 d hg
  exact tail_any h1.typeIs slot_dict_getitem.lookup (wpAny_getItem_heap (knd := nestedKind X.prog X.w) (by show X.A.units + 1 + 8 < cLine; omega) (key_is hB I hk hd) h1 e1 ⟨v', H, I.tok _, hv _ e1, hq⟩) hs
def rIxKd : R2 := fun x y H Q => ∃ a v, x = .ref a ∧ DGet H a y (some v) ∧ Q v H
theorem ix_Kd (hu : X.A.units + 100 < cLine) : IxR X rIxKd := by
  intro value slice pins s σ H x y v u Q I rx ry h hs
  obtain ⟨a, v', rfl, g, q⟩ := h
  cases rx
  exact tail_any (dict_typeIs I g) slot_dict_getitem.lookup (d_getItem (by omega) I g ry fun w' s3 I3 rw' => ⟨v', H, I3, rw', q⟩) hs
def rIxAll (B : Bs) (K : PySem.W.Frag) : R2 := fun x y H Q => rIx K x y H Q ∨ rIxN B x y H Q ∨ rIxKd x y H Q
theorem ix_all (hB : BX B X) (hu : X.A.units + 100 < cLine) : IxR X (rIxAll B X.K) := ix_seq.or ((ix_N hB hu).or (ix_Kd hu))
theorem Rels.at {F : Hp} {vs : List V} {ds : List D} {i : Int} {d : D} (h : Rels B F vs ds) (e : L2.atI ds i = some d) : ∃ v, L2.atI vs i = some v ∧ Rel B F v d := by
  unfold L2.atI at e ⊢
  rw [h.len]
  cases q : L2.ixN ds.length i with
  | none => rw [q] at e; cases e
  | some j => rw [q] at e; exact h.get e
theorem Ents.atV {H : Hp} {k : NestedKey} {es : List Ent} {kvs : List (NestedKey × D)} {d : D} (h : Ents B H es kvs) (e : getT kvs k = some d) : ∃ v, Rel B H v d ∧ (∃ u, u ∈ es.map (·.2.2) ∧ RelV v u) ∧ ∀ u, atKey es k = some u → RelV v u.2 := by
  obtain ⟨q, u, v, h1, h2, h3⟩ := h.get.1 d e
  refine ⟨v, h3, ⟨u, ?_, h2⟩, fun w hw => ?_⟩
  · unfold atKey at h1
    obtain ⟨x, hx, e2⟩ := Option.map_eq_some_iff.mp h1
    exact List.mem_map.mpr ⟨x, List.mem_of_find?_eq_some hx, by rw [e2]⟩
  · rw [h1] at hw; cases hw; exact h2
/-- the item of the cell's own content stays data of F -/
theorem look_ix (hB : BX B X) {F H : Hp} {v w : V} {a b z : D} {Q : VK} (f : Same F H) (l1 : Look B F H v a) (l2 : Look B F H w b) (e : ixD a b = some z) (R : Res B F H z Q) : rIxAll B X.K v w H Q := by
  cases l1 with
  | lst q r =>
    cases l2 with
    | int i =>
      obtain ⟨v, h1, h2⟩ := r.at (by simpa [ixD] using e)
      exact .inl (.inl ⟨_, _, _, _, rfl, rfl, .inl q, h1, R.old _ h2⟩)
    | _ => simp [ixD] at e
  | tup q r =>
    cases l2 with
    | int i =>
      obtain ⟨v, h1, h2⟩ := r.at (by simpa [ixD] using e)
      exact .inl (.inr (.inl ⟨_, _, _, _, rfl, rfl, hB.K ▸ SqT.same f q, h1, R.old _ h2⟩))
    | _ => simp [ixD] at e
  | str s =>
    cases l2 with
    | int i =>
      simp only [ixD] at e
      split at e
      · rename_i hz
        obtain ⟨c, h1, rfl⟩ := Option.map_eq_some_iff.mp e
        refine .inl (.inr (.inr ⟨_, _, c, rfl, rfl, by rw [str_len, szl]; exact hz, by simpa using h1, R.old _ (.str [c])⟩))
      · cases e
    | _ => simp [ixD] at e
  | dct q r =>
    simp only [ixD, Option.bind_eq_some_iff] at e
    obtain ⟨k, hk, e⟩ := e
    obtain ⟨qq, rfl, h3, h4⟩ := keyT_of hk (l2.rel f)
    obtain ⟨v, g1, g2, g3⟩ := r.atV e
    exact .inr (.inl ⟨_, _, _, _, _, k, v, _, rfl, rfl, q, r.mono f, h3, h4, e, g2, g3, R.old _ g1⟩)
  | dck q r =>
    simp only [ixD, Option.bind_eq_some_iff] at e
    obtain ⟨k, hk, e⟩ := e
    have := keyK_of hk (l2.rel f)
    subst this
    obtain ⟨v, g1, g2⟩ := r.get.1 _ e
    exact .inr (.inr ⟨_, v, rfl, by rw [← g1]; exact DGet.k q, R.old _ g2⟩)
  | _ => simp [ixD] at e
theorem p_ix (hB : BX B X) : Prim2 B W (rIxAll B X.K) (rd2 ixD) := prim2_rd fun F H v w a b z Q f l1 l2 e R => look_ix hB f l1 l2 e R

/-! ### slices -/
abbrev DO := Sl → Sto → Out (Option Int)
abbrev relO : List Addr → Hp → Option Int → Option Int → Prop := fun _ _ a b => a = b
abbrev denO (B : Bs) (W : WX) (f : DO) : TO := den B W relO f
def oNone : DO := fun _ S => .ok none S
def oSome (f : DE) : DO := fun sl S => (f sl S).bind fun x S1 => match asD S1 x with
  | some (.int i) => .ok (some i) S1
  | _ => .bad
theorem PO_weak {e : Option Expr} {t t' : TO} (h : PO X e t) (w : ∀ σ H Q, t' σ H Q → t σ H Q) : PO X e t' := ⟨fun pins s σ H Q I q => h.run pins s σ H Q I (w σ H Q q)⟩
theorem o_none : PO X none (denO B W oNone) := PO_weak po_none fun σ H Q ⟨Hk, m, F, sl, S, R, R2, q⟩ => den_pure (f := oNone) (sl := sl) (v := none) R rfl q rfl
theorem o_some {e : Expr} {f : DE} (h : PE X e (denE B W f)) : PO X (some e) (denO B W (oSome f)) := PO_weak (po_some h) fun σ H Q ⟨Hk, m, F, sl, S, R, R2, q⟩ =>
  den_mono (den_step (k := fun x S1 => match asD S1 x with | some (.int i) => .ok (some i) S1 | _ => .bad) R R2 q) fun v H1 ⟨m1, F1, S1, x, R1, R21, G, r1, p⟩ => by
    cases e : asD S1 x with
    | none => rw [e] at p; exact False.elim p
    | some a =>
      rw [e] at p
      have l := look R1 r1 e
      cases l with
      | int i => exact ⟨i, rfl, p _ H1 m1 F1 R1 (Grow.refl _ _ _) rfl⟩
      | _ => exact False.elim p
def dSl (f : DE) (lo hi : DO) : DE := fun sl S => (f sl S).bind fun x S1 => (lo sl S1).bind fun l S2 => (hi sl S2).bind fun u S3 => match asD S3 x with
  | some a => Out.of ((sliceD a l u).map Val.d) S3
  | none => .bad
def rSlAll (K : PySem.W.Frag) : V → Option Int → Option Int → Hp → VK → Prop := fun x lo hi H Q => rSlL K x lo hi H Q ∨ rSlA K x lo hi H Q ∨ rSlS x lo hi H Q
theorem sl_all : SlR X (rSlAll X.K) := sl_list.or (sl_tupA.or sl_str)
theorem Rels.cut {F : Hp} {vs : List V} {ds : List D} (h : Rels B F vs ds) (lo hi : Option Int) : Rels B F (cutV vs lo hi) (cutL ds lo hi) := by
  unfold cutV cutL
  rw [h.len]
  exact (h.drop _).take _
theorem de_slice {e : Expr} {lo hi : Option Expr} {f : DE} {fl fh : DO} {p2 pos : Pos} (hB : BX B X) (h : PE X e (denE B W f)) (hl : PO X lo (denO B W fl)) (hh : PO X hi (denO B W fh)) : PE X (.Subscript e (.Slice lo hi none p2) pos) (denE B W (dSl f fl fh)) :=
  PE_weak (pe_slice sl_all h hl hh) fun σ H Q ⟨Hk, m, F, sl, S, R, R2, q⟩ =>
    den_mono (den_step (k := fun x S1 => (fl sl S1).bind fun l S2 => (fh sl S2).bind fun u S3 => match asD S3 x with | some a => Out.of ((sliceD a l u).map Val.d) S3 | none => .bad) R R2 q) fun v H1 ⟨m1, F1, S1, x, R1, R21, G1, r1, p1⟩ =>
      den_mono (den_step (k := fun l S2 => (fh sl S2).bind fun u S3 => match asD S3 x with | some a => Out.of ((sliceD a l u).map Val.d) S3 | none => .bad) R1 R21 p1) fun l H2 ⟨m2, F2, S2, l', R2', R22, G2, r2, p2⟩ =>
        den_mono (den_step (k := fun u S3 => match asD S3 x with | some a => Out.of ((sliceD a l' u).map Val.d) S3 | none => .bad) R2' R22 p2) fun u H3 ⟨m3, F3, S3, u', R3, R23, G3, r3, p3⟩ => by
          cases r2
          cases r3
          cases e : asD S3 x with
          | none => rw [e] at p3; exact False.elim p3
          | some a =>
            rw [e] at p3
            have lk := look R3 ((r1.grow G2).grow G3) e
            dsimp only at p3
            cases z : sliceD a l u with
            | none => rw [z] at p3; exact False.elim p3
            | some d =>
              rw [z] at p3
              have RS := res_of R3 p3
              have f3 := R3.froz
              cases lk with
              | lst qq r =>
                simp only [sliceD, Option.some.injEq] at z
                subst z
                exact .inl ⟨_, _, rfl, .inl qq, fun p hp => RS.new p _ hp (.lst (.inl upd_same) ((r.cut l u).mono (same_own (f3.free hp))))⟩
              | tup qq r =>
                simp only [sliceD, Option.some.injEq] at z
                subst z
                refine .inr (.inl ⟨_, _, rfl, hB.K ▸ SqT.same f3 qq, fun hw => RS.old _ ?_, fun _ p hp => RS.new p _ hp (.tup (SqT.of upd_same) ((r.cut l u).mono (same_own (f3.free hp))))⟩)
                have : ∀ ds : List D, (HT.sIx ds.length 0 l = 0 ∧ HT.sIx ds.length ds.length u = ds.length) → cutL ds l u = ds := fun ds h => by
                  unfold cutL; rw [h.1, h.2]; simp
                rw [this _ (by rw [← r.len]; exact hw)]
                exact .tup qq r
              | str s =>
                simp only [sliceD] at z
                split at z
                · rename_i hz
                  cases z
                  refine .inr (.inr ⟨_, rfl, by rw [str_len, szl]; exact hz, ?_⟩)
                  have : cutS ⟨s.toArray⟩ l u = ⟨(cutL s l u).toArray⟩ := by unfold cutS cutL; simp [Str.length]
                  rw [this]
                  exact RS.old _ (.str _)
                · cases z
              | _ => simp [sliceD] at z
end
end Dn

set_option Elab.async false
set_option linter.all false
set_option maxRecDepth 100000
set_option maxHeartbeats 2000000
/-! Dn: tests, and, or, displays, len. -/
namespace Dn
open PySem L2 PyProof.Rows

section
variable {X : Cx} {B : Bs} {W : WX}
theorem w_d1 {r : V → Hp → VK → Prop} {f : DE} {k : Val → Sto → Out Val} (hp : Prim1 B W r k) {σ : L2.St} {H : Hp} {Q : VK} (h : denE B W (d1 f k) σ H Q) : denE B W f σ H fun x H1 => r x H1 Q := by
  obtain ⟨Hk, m, F, sl, S, R, R2, q⟩ := h
  exact den_mono (den_step (k := k) R R2 q) fun v H1 ⟨m1, F1, S1, x, R1, R21, G, r1, p⟩ => hp Hk σ m1 F1 S1 H1 v x Q R1 r1 p
theorem w_d2 {r : R2} {f g : DE} {k : Val → Val → Sto → Out Val} (hp : Prim2 B W r k) {σ : L2.St} {H : Hp} {Q : VK} (h : denE B W (d2 f g k) σ H Q) : tOp r (denE B W f) (denE B W g) σ H Q := by
  obtain ⟨Hk, m, F, sl, S, R, R2, q⟩ := h
  exact den_mono (den_step (k := fun x S1 => (g sl S1).bind fun y S2 => k x y S2) R R2 q) fun v H1 ⟨m1, F1, S1, x, R1, R21, G, r1, p⟩ =>
    den_mono (den_step (k := fun y S2 => k x y S2) R1 R21 p) fun w H2 ⟨m2, F2, S2, y, R3, R23, G2, r2, p2⟩ => hp Hk σ m2 F2 S2 H2 v w x y Q R3 (r1.grow G2) r2 p2

/-! ### tests -/
def bOf (z : Val) (S : Sto) : Out Bool := match z with
  | .d (.bl b) => .ok b S
  | _ => .bad
@[simp] theorem bOf_bl (b : Bool) (S : Sto) : bOf (.d (.bl b)) S = .ok b S := rfl
def tB (g : DE) : DT := fun sl S => (g sl S).bind bOf
theorem w_tB {g : DE} {σ : L2.St} {H : Hp} {Q : Bool → Hp → Prop} (h : denT B W (tB g) σ H Q) : denE B W g σ H fun x H' => ∃ k, x = .bl k ∧ Q k H' := by
  obtain ⟨Hk, m, F, sl, S, R, R2, q⟩ := h
  refine den_mono (den_step (k := bOf) R R2 q) fun v H1 ⟨m1, F1, S1, x, R1, R21, G, r1, p⟩ => ?_
  cases r1 with
  | r _ => exact False.elim p
  | d r1 =>
    cases r1 with
    | bl b => exact ⟨b, rfl, p b H1 m1 F1 R1 (Grow.refl _ _ _) rfl⟩
    | _ => exact False.elim p
theorem dt_of {e : Expr} {t : TE} {g : DE} (h : PT X e (tTest t)) (w : ∀ σ H Q, denE B W g σ H Q → t σ H Q) : PT X e (denT B W (tB g)) := PT_weak h fun σ H Q q => w σ H _ (w_tB q)
theorem dt2 {e : Expr} {r : R2} {f g : DE} {k : Val → Val → Sto → Out Val} (h : PT X e (tTest (tOp r (denE B W f) (denE B W g)))) (hp : Prim2 B W r k) : PT X e (denT B W (tB (d2 f g k))) := dt_of h fun _ _ _ q => w_d2 hp q
/-- the truth of a value -/
def tTr (g : DE) : DT := fun sl S => (g sl S).bind fun x S1 => match asD S1 x with
  | some a => Out.of (truthD a) S1
  | none => .bad
theorem empty_eq {α : Type} (xs : List α) : ((xs.length : Int) != 0) = !xs.isEmpty := by cases xs with | nil => rfl | cons a l => simp; omega
theorem dt_truth {e : Expr} {g : DE} (hB : BX B X) (h : PE X e (denE B W g)) (he : ∀ whole, isTrue e X.env whole = (do let v ← whole; standAt e.pos; holding [v] (truthy v)) := by intro _; rfl) : PT X e (denT B W (tTr g)) :=
  PT_weak (pt_truth h he) fun σ H Q ⟨Hk, m, F, sl, S, R, R2, q⟩ => den_mono (den_step (k := fun x S1 => match asD S1 x with | some a => Out.of (truthD a) S1 | none => .bad) R R2 q) fun v H1 ⟨m1, F1, S1, x, R1, R21, G, r1, p⟩ => by
    cases e : asD S1 x with
    | none => rw [e] at p; exact False.elim p
    | some a =>
      rw [e] at p
      dsimp only at p
      cases z : truthD a with
      | none => rw [z] at p; exact False.elim p
      | some b =>
        rw [z] at p
        have lk := look R1 r1 e
        refine ⟨b, ?_, p b H1 m1 F1 R1 (Grow.refl _ _ _) rfl⟩
        cases lk with
        | non => cases z; exact rfl
        | bl b => cases z; exact rfl
        | int i => cases z; exact rfl
        | str s =>
          simp only [truthD] at z
          split at z
          · rename_i hz
            cases z
            exact ⟨by rw [str_len, szl]; exact hz, by rw [str_len]; exact (empty_eq s).symm⟩
          · cases z
        | lst q r =>
          simp only [truthD, Option.some.injEq] at z
          subst z
          have e2 := r.len
          refine .inl ⟨_, .inl q, ?_⟩
          cases r <;> rfl
        | tup q r =>
          simp only [truthD, Option.some.injEq] at z
          subst z
          refine .inr (.inl ⟨_, hB.K ▸ SqT.same R1.froz q, ?_⟩)
          cases r <;> rfl
        | _ => cases z
def tAnd (f g : DT) : DT := fun sl S => (f sl S).bind fun c S1 => if c = true then g sl S1 else .ok false S1
def tOr (f g : DT) : DT := fun sl S => (f sl S).bind fun c S1 => if c = true then .ok true S1 else g sl S1
def tNot (f : DT) : DT := fun sl S => (f sl S).bind fun c S1 => .ok (!c) S1
theorem w_tAnd {f g : DT} {σ : L2.St} {H : Hp} {Q : Bool → Hp → Prop} (h : denT B W (tAnd f g) σ H Q) : L2.tAnd (denT B W f) (denT B W g) σ H Q := by
  obtain ⟨Hk, m, F, sl, S, R, R2, q⟩ := h
  refine den_mono (den_step (k := fun c S1 => if c = true then g sl S1 else .ok false S1) R R2 q) fun v H1 ⟨m1, F1, S1, x, R1, R21, G, r1, p⟩ => ?_
  cases r1
  cases v with
  | true => exact ⟨Hk, m1, F1, sl, S1, R1, R21, p⟩
  | false => exact p false H1 m1 F1 R1 (Grow.refl _ _ _) rfl
theorem w_tOr {f g : DT} {σ : L2.St} {H : Hp} {Q : Bool → Hp → Prop} (h : denT B W (tOr f g) σ H Q) : L2.tOr (denT B W f) (denT B W g) σ H Q := by
  obtain ⟨Hk, m, F, sl, S, R, R2, q⟩ := h
  refine den_mono (den_step (k := fun c S1 => if c = true then .ok true S1 else g sl S1) R R2 q) fun v H1 ⟨m1, F1, S1, x, R1, R21, G, r1, p⟩ => ?_
  cases r1
  cases v with
  | false => exact ⟨Hk, m1, F1, sl, S1, R1, R21, p⟩
  | true => exact p true H1 m1 F1 R1 (Grow.refl _ _ _) rfl
theorem w_tNot {f : DT} {σ : L2.St} {H : Hp} {Q : Bool → Hp → Prop} (h : denT B W (tNot f) σ H Q) : L2.tNot (denT B W f) σ H Q := by
  obtain ⟨Hk, m, F, sl, S, R, R2, q⟩ := h
  refine den_mono (den_step (k := fun c S1 => .ok (!c) S1) R R2 q) fun v H1 ⟨m1, F1, S1, x, R1, R21, G, r1, p⟩ => ?_
  cases r1
  exact p (!v) H1 m1 F1 R1 (Grow.refl _ _ _) rfl
theorem dw_and1 {a : Expr} {pos : Pos} {f : DT} (h : PT X a (denT B W f)) : PW X (.BoolOp .And [a] pos) (denT B W f) := pw_and1 h
theorem dw_or1 {a : Expr} {pos : Pos} {f : DT} (h : PT X a (denT B W f)) : PW X (.BoolOp .Or [a] pos) (denT B W f) := pw_or1 h
theorem dw_and {a b : Expr} {rest : List Expr} {pos : Pos} {f g : DT} (h : PT X a (denT B W f)) (h2 : PW X (.BoolOp .And (b :: rest) pos) (denT B W g)) : PW X (.BoolOp .And (a :: b :: rest) pos) (denT B W (tAnd f g)) := PW_weak (pw_and h h2) fun _ _ _ q => w_tAnd q
theorem dw_or {a b : Expr} {rest : List Expr} {pos : Pos} {f g : DT} (h : PT X a (denT B W f)) (h2 : PW X (.BoolOp .Or (b :: rest) pos) (denT B W g)) : PW X (.BoolOp .Or (a :: b :: rest) pos) (denT B W (tOr f g)) := PW_weak (pw_or h h2) fun _ _ _ q => w_tOr q
theorem dt_not {a : Expr} {pos : Pos} {f : DT} (h : PT X a (denT B W f)) : PT X (.UnaryOp .Not a pos) (denT B W (tNot f)) := PT_weak (pt_not h) fun _ _ _ q => w_tNot q

/-! ### and, or, not as values -/
def dAnd (f g : DE) : DE := fun sl S => (f sl S).bind fun x S1 => (bOf x S1).bind fun c S2 => if c = true then g sl S2 else .ok (.d (.bl false)) S2
def dOr (f g : DE) : DE := fun sl S => (f sl S).bind fun x S1 => (bOf x S1).bind fun c S2 => if c = true then .ok (.d (.bl true)) S2 else g sl S2
def dNot (f : DE) : DE := fun sl S => (f sl S).bind fun x S1 => (bOf x S1).bind fun c S2 => .ok (.d (.bl (!c))) S2
theorem bOf_rel {Hk : Hp} {σ : L2.St} {m : List Addr} {F H : Hp} {S : Sto} {x : Val} {v : V} {Q : VK} {k : Bool → Sto → Out Val} (r : RelX B m F v x) (p : post B W (relE B) Hk σ m F H ((bOf x S).bind k) Q) : ∃ c, v = .bl c ∧ post B W (relE B) Hk σ m F H (k c S) Q := by
  cases r with
  | r _ => exact False.elim p
  | d r1 =>
    cases r1 with
    | bl b => exact ⟨b, rfl, p⟩
    | _ => exact False.elim p
theorem de_and {a b : Expr} {rest : List Expr} {pos : Pos} {f g : DE} (h : PE X a (denE B W f)) (h2 : PE X (.BoolOp .And (b :: rest) pos) (denE B W g)) : PE X (.BoolOp .And (a :: b :: rest) pos) (denE B W (dAnd f g)) :=
  PE_weak (pe_and h h2) fun σ H Q ⟨Hk, m, F, sl, S, R, R2, q⟩ => den_mono (den_step (k := fun x S1 => (bOf x S1).bind fun c S2 => if c = true then g sl S2 else .ok (.d (.bl false)) S2) R R2 q) fun v H1 ⟨m1, F1, S1, x, R1, R21, G, r1, p⟩ => by
    obtain ⟨c, rfl, p⟩ := bOf_rel r1 p
    refine ⟨c, rfl, ?_⟩
    cases c with
    | true => exact ⟨Hk, m1, F1, sl, S1, R1, R21, p⟩
    | false => exact p _ H1 m1 F1 R1 (Grow.refl _ _ _) (.d (.bl false))
theorem de_or {a b : Expr} {rest : List Expr} {pos : Pos} {f g : DE} (h : PE X a (denE B W f)) (h2 : PE X (.BoolOp .Or (b :: rest) pos) (denE B W g)) : PE X (.BoolOp .Or (a :: b :: rest) pos) (denE B W (dOr f g)) :=
  PE_weak (pe_or h h2) fun σ H Q ⟨Hk, m, F, sl, S, R, R2, q⟩ => den_mono (den_step (k := fun x S1 => (bOf x S1).bind fun c S2 => if c = true then .ok (.d (.bl true)) S2 else g sl S2) R R2 q) fun v H1 ⟨m1, F1, S1, x, R1, R21, G, r1, p⟩ => by
    obtain ⟨c, rfl, p⟩ := bOf_rel r1 p
    refine ⟨c, rfl, ?_⟩
    cases c with
    | false => exact ⟨Hk, m1, F1, sl, S1, R1, R21, p⟩
    | true => exact p _ H1 m1 F1 R1 (Grow.refl _ _ _) (.d (.bl true))
theorem de_one {op : PySem.BoolOp} {a : Expr} {pos : Pos} {f : DE} (h : PE X a (denE B W f)) : PE X (.BoolOp op [a] pos) (denE B W f) := pe_one h
theorem de_not {a : Expr} {pos : Pos} {f : DE} (h : PE X a (denE B W f)) : PE X (.UnaryOp .Not a pos) (denE B W (dNot f)) :=
  PE_weak (pe_not h) fun σ H Q ⟨Hk, m, F, sl, S, R, R2, q⟩ => den_mono (den_step (k := fun x S1 => (bOf x S1).bind fun c S2 => Out.ok (Val.d (D.bl (!c))) S2) R R2 q) fun v H1 ⟨m1, F1, S1, x, R1, R21, G, r1, p⟩ => by
    obtain ⟨c, rfl, p⟩ := bOf_rel r1 p
    exact ⟨c, rfl, p _ H1 m1 F1 R1 (Grow.refl _ _ _) (.d (.bl _))⟩
def dIf (t : DT) (f g : DE) : DE := fun sl S => (t sl S).bind fun c S1 => if c = true then f sl S1 else g sl S1
theorem de_if {c a b : Expr} {pos : Pos} {t : DT} {f g : DE} (hc : PT X c (denT B W t)) (ha : PE X a (denE B W f)) (hb : PE X b (denE B W g)) : PE X (.IfExp c a b pos) (denE B W (dIf t f g)) :=
  PE_weak (pe_ifExp hc ha hb) fun σ H Q ⟨Hk, m, F, sl, S, R, R2, q⟩ => den_mono (den_step (k := fun c S1 => if c = true then f sl S1 else g sl S1) R R2 q) fun v H1 ⟨m1, F1, S1, x, R1, R21, G, r1, p⟩ => by
    cases r1
    cases v with
    | true => exact ⟨Hk, m1, F1, sl, S1, R1, R21, p⟩
    | false => exact ⟨Hk, m1, F1, sl, S1, R1, R21, p⟩

/-! ### is -/
def isNV : Val → Bool
  | .d .non => true
  | _ => false
def kIsN (neg : Bool) (x : Val) (S : Sto) : Out Val := .ok (.d (.bl (if neg then !isNV x else isNV x))) S
def rN (neg : Bool) : R2 := fun x y H Q => y = .non ∧ Q (.bl (if neg then !decide (x = .non) else decide (x = .non))) H
def k2N (neg : Bool) (x y : Val) (S : Sto) : Out Val := match y with
  | .d .non => kIsN neg x S
  | _ => .bad
theorem p_is (neg : Bool) : Prim2 B W (rN neg) (k2N neg) := by
  intro Hk σ m F S H v w x y Q R rx ry p
  cases ry with
  | r _ => exact False.elim p
  | d ry =>
    cases ry with
    | non =>
      refine ⟨rfl, ?_⟩
      have e : decide (v = V.non) = isNV x := by
        cases rx with
        | r _ => simp [isNV]
        | d rx => cases rx <;> simp [isNV]
      rw [e]
      exact p _ H m F R (Grow.refl _ _ _) (.d (.bl _))
    | _ => exact False.elim p
theorem op_isNA : OpR X (compareOp .Is) (rN false) := op_isN
theorem op_notNA : OpR X (compareOp .IsNot) (rN true) := op_notN
def rB2 (neg : Bool) : R2 := fun x y H Q => ∃ a b, x = .bl a ∧ y = .bl b ∧ Q (.bl (if neg then !decide (a = b) else decide (a = b))) H
theorem op_isB : OpR X (compareOp .Is) (rB2 false) := op_is_bl
theorem op_notB : OpR X (compareOp .IsNot) (rB2 true) := op_isnot_bl
def isBD (neg : Bool) : D → D → Option D
  | .bl a, .bl b => some (.bl (if neg then !decide (a = b) else decide (a = b)))
  | _, _ => none
theorem p_isB (neg : Bool) : Prim2 B W (rB2 neg) (rd2 (isBD neg)) := prim2_rd fun F H v w a b z Q f l1 l2 e R => by
  cases l1 <;> cases l2 <;> simp only [isBD, reduceCtorEq, Option.some.injEq] at e
  subst e; exact ⟨_, _, rfl, rfl, R.old _ (.bl _)⟩

/-! ### displays -/
def toDs : List Val → Sto → Out (List D)
  | [], S => .ok [] S
  | x :: xs, S => (toD x S).bind fun d S1 => (toDs xs S1).bind fun ds S2 => .ok (d :: ds) S2
theorem keepDs {Hk : Hp} {m : List Addr} {H : Hp} : ∀ {xs : List Val} {vs : List V} {F : Hp} {S : Sto} {ds : List D} {S' : Sto}, RH B Hk m F S H → RelXs B m F vs xs → toDs xs S = .ok ds S' → ∃ F', RH B Hk m F' S' H ∧ Grow m F H m F' H ∧ Rels B F' vs ds
  | [], _, F, S, ds, S', R, r, e => by
    simp only [toDs, Out.ok.injEq] at e
    obtain ⟨rfl, rfl⟩ := e
    cases r
    exact ⟨F, R, Grow.refl _ _ _, .nil⟩
  | x :: xs, _, F, S, ds, S', R, r, e => by
    cases r with
    | cons r1 r2 =>
      rw [toDs] at e
      cases q : toD x S with
      | ok d S1 =>
        rw [q, Out.bind_ok] at e
        obtain ⟨F1, R1, G1, h1⟩ := keepD R r1 q
        cases q2 : toDs xs S1 with
        | ok ds' S2 =>
          rw [q2, Out.bind_ok] at e
          simp only [Out.ok.injEq] at e
          obtain ⟨rfl, rfl⟩ := e
          obtain ⟨F2, R2, G2, h2⟩ := keepDs R1 (r2.grow G1) q2
          exact ⟨F2, R2, G1.trans G2, .cons (h1.grow G2) h2⟩
        | exc c S2 => rw [q2] at e; cases e
        | bad => rw [q2] at e; cases e
      | exc c S1 => rw [q] at e; cases e
      | bad => rw [q] at e; cases e
theorem post_toDs {α γ : Type} {rel : List Addr → Hp → γ → α → Prop} {Hk : Hp} {σ : L2.St} {m : List Addr} {F H : Hp} {S : Sto} {xs : List Val} {vs : List V} {Q : γ → Hp → Prop} {k : List D → Sto → Out α} (R : RH B Hk m F S H) (r : RelXs B m F vs xs) (p : post B W rel Hk σ m F H ((toDs xs S).bind k) Q) :
    ∃ ds F' S', RH B Hk m F' S' H ∧ Grow m F H m F' H ∧ Rels B F' vs ds ∧ post B W rel Hk σ m F' H (k ds S') Q := by
  cases q : toDs xs S with
  | ok ds S' =>
    rw [q, Out.bind_ok] at p
    obtain ⟨F', R', G, h⟩ := keepDs R r q
    exact ⟨ds, F', S', R', G, h, post_grow G p⟩
  | exc c S' =>
    exfalso
    have : ∀ (xs : List Val) (S : Sto) c S', toDs xs S ≠ .exc c S' := by
      intro xs
      induction xs with
      | nil => intro S c S' h; cases h
      | cons x xs ih =>
        intro S c S' h
        rw [toDs] at h
        cases q : toD x S with
        | ok d S1 =>
          rw [q, Out.bind_ok] at h
          cases q2 : toDs xs S1 with
          | ok _ _ => rw [q2] at h; cases h
          | exc c2 S2 => exact ih S1 c2 S2 q2
          | bad => rw [q2] at h; cases h
        | exc c2 S1 =>
          cases x with
          | d x => cases q
          | r n =>
            simp only [toD] at q
            split at q
            · cases q
            · split at q <;> cases q
            · cases q
        | bad => rw [q] at h; cases h
    exact this xs S c S' q
  | bad => rw [q] at p; exact False.elim p
theorem post_toD {α γ : Type} {rel : List Addr → Hp → γ → α → Prop} {Hk : Hp} {σ : L2.St} {m : List Addr} {F H : Hp} {S : Sto} {x : Val} {v : V} {Q : γ → Hp → Prop} {k : D → Sto → Out α} (R : RH B Hk m F S H) (r : RelX B m F v x) (p : post B W rel Hk σ m F H ((toD x S).bind k) Q) :
    ∃ d F' S', RH B Hk m F' S' H ∧ Grow m F H m F' H ∧ Rel B F' v d ∧ post B W rel Hk σ m F' H (k d S') Q := by
  have p' : post B W rel Hk σ m F H ((toDs [x] S).bind fun ds S' => match ds with | [d] => k d S' | _ => .bad) Q := by
    simp only [toDs]
    cases q : toD x S with
    | ok d S1 => rw [q] at p; exact p
    | exc c S1 => rw [q] at p; exact p
    | bad => rw [q] at p; exact p
  obtain ⟨ds, F', S', R', G, h, p2⟩ := post_toDs R (.cons r .nil) p'
  cases h with
  | cons h1 h2 => cases h2; exact ⟨_, F', S', R', G, h1, p2⟩
def fits {α : Type} (xs : List α) : Bool := decide (xs.length ≤ 16777216)
def dTup (f : DA) : DE := dA f fun xs S => (toDs xs S).bind fun ds S1 => if fits ds then .ok (.d (.tup ds)) S1 else .bad
def dLst (f : DA) : DE := dA f fun xs S => (toDs xs S).bind fun ds S1 => if fits ds then .ok (.d (.lst ds)) S1 else .bad
def cLst (f : DA) : DE := dA f fun xs S => if fits xs then .ok (.r S.length) (S ++ [.lst xs]) else .bad
def cTup (f : DA) : DE := dA f fun xs S => if fits xs then .ok (.r S.length) (S ++ [.tup xs]) else .bad
theorem w_dA {r : List V → Hp → VK → Prop} {f : DA} {k : List Val → Sto → Out Val} (hp : PrimA B W r k) {σ : L2.St} {H : Hp} {Q : VK} (h : denE B W (dA f k) σ H Q) : denA B W f σ H fun xs H1 => r xs H1 Q := by
  obtain ⟨Hk, m, F, sl, S, R, R2, q⟩ := h
  exact den_mono (den_step (k := k) R R2 q) fun v H1 ⟨m1, F1, S1, x, R1, R21, G, r1, p⟩ => hp Hk σ m1 F1 S1 H1 v x Q R1 r1 p
theorem app_last {m : List Addr} {p : Addr} {n : Nat} (h : m.length = n) : (m ++ [p])[n]? = some p := by subst h; simp
theorem de_tup {es : List Expr} {f : DA} {x1 : Nat} {pos : Pos} (h : PA X es (denA B W f)) : PE X (.Tuple es x1 pos) (denE B W (dTup f)) :=
  PE_weak (pe_tup h) fun σ H Q q => w_dA (r := fun xs H1 Q => xs.length ≤ sizeLine ∧ ∀ p, H1 p = none → Q (.ref p) (upd H1 p (.tup xs))) (fun Hk σ m F S H vs xs Q R r p => by
    obtain ⟨ds, F', S', R', G, h, p⟩ := post_toDs R r p
    split at p
    · rename_i hz
      have hz : ds.length ≤ 16777216 := of_decide_eq_true hz
      refine ⟨by rw [h.len, szl]; exact hz, fun a ha => ?_⟩
      exact (res_of R' p).new a _ ha (.tup (SqT.of upd_same) (h.mono (same_own (R'.none ha))))
    · exact False.elim p) q
theorem de_lst {es : List Expr} {f : DA} {pos : Pos} (h : PA X es (denA B W f)) : PE X (.List es pos) (denE B W (dLst f)) :=
  PE_weak (pe_lst h) fun σ H Q q => w_dA (r := fun xs H1 Q => xs.length ≤ sizeLine ∧ ∀ p, H1 p = none → Q (.ref p) (upd H1 p (.lst xs))) (fun Hk σ m F S H vs xs Q R r p => by
    obtain ⟨ds, F', S', R', G, h, p⟩ := post_toDs R r p
    split at p
    · rename_i hz
      have hz : ds.length ≤ 16777216 := of_decide_eq_true hz
      refine ⟨by rw [h.len, szl]; exact hz, fun a ha => ?_⟩
      exact (res_of R' p).new a _ ha (.lst (.inl upd_same) (h.mono (same_own (R'.none ha))))
    · exact False.elim p) q
theorem de_lstC {es : List Expr} {f : DA} {pos : Pos} (h : PA X es (denA B W f)) : PE X (.List es pos) (denE B W (cLst f)) :=
  PE_weak (pe_lst h) fun σ H Q q => w_dA (r := fun xs H1 Q => xs.length ≤ sizeLine ∧ ∀ p, H1 p = none → Q (.ref p) (upd H1 p (.lst xs))) (fun Hk σ m F S H vs xs Q R r p => by
    split at p
    · rename_i hz
      have hz : xs.length ≤ 16777216 := of_decide_eq_true hz
      refine ⟨by rw [r.len, szl]; exact hz, fun a ha => ?_⟩
      obtain ⟨R', G⟩ := R.newC (o := .lst vs) (c := .lst xs) ha ⟨R.none ha, vs, upd_same, r.mono ⟨[a], rfl⟩ (fun _ _ h => h)⟩
      exact p _ _ _ _ R' G (.r (app_last R.len))
    · exact False.elim p) q
theorem de_tupC {es : List Expr} {f : DA} {x1 : Nat} {pos : Pos} (h : PA X es (denA B W f)) : PE X (.Tuple es x1 pos) (denE B W (cTup f)) :=
  PE_weak (pe_tup h) fun σ H Q q => w_dA (r := fun xs H1 Q => xs.length ≤ sizeLine ∧ ∀ p, H1 p = none → Q (.ref p) (upd H1 p (.tup xs))) (fun Hk σ m F S H vs xs Q R r p => by
    split at p
    · rename_i hz
      have hz : xs.length ≤ 16777216 := of_decide_eq_true hz
      refine ⟨by rw [r.len, szl]; exact hz, fun a ha => ?_⟩
      obtain ⟨R', G⟩ := R.newC (o := .tup vs) (c := .tup xs) ha ⟨R.none ha, vs, upd_same, r.mono ⟨[a], rfl⟩ (fun _ _ h => h)⟩
      exact p _ _ _ _ R' G (.r (app_last R.len))
    · exact False.elim p) q

/-! ### comparisons in chains: a op b op c -/
def dChain (f g h : DE) (k k' : Val → Val → Sto → Out Val) : DE := fun sl S => (f sl S).bind fun x S1 => (g sl S1).bind fun y S2 => (k x y S2).bind fun z S3 => (bOf z S3).bind fun c S4 => if c = true then (h sl S4).bind fun w S5 => k' y w S5 else .ok (.d (.bl false)) S4
theorem w_chain {r r' : R2} {f g h : DE} {k k' : Val → Val → Sto → Out Val} (hp : Prim2 B W r k) (hp' : Prim2 B W r' k') {σ : L2.St} {H : Hp} {Q : VK} (hh : denE B W (dChain f g h k k') σ H Q) : tChain r r' (denE B W f) (denE B W g) (denE B W h) σ H Q := by
  obtain ⟨Hk, m, F, sl, S, R, R2, q⟩ := hh
  refine den_mono (den_step (k := fun x S1 => (g sl S1).bind fun y S2 => (k x y S2).bind fun z S3 => (bOf z S3).bind fun c S4 => if c = true then (h sl S4).bind fun w S5 => k' y w S5 else .ok (.d (.bl false)) S4) R R2 q) fun v H1 ⟨m1, F1, S1, x, R1, R21, G, r1, p⟩ => ?_
  refine den_mono (den_step (k := fun y S2 => (k x y S2).bind fun z S3 => (bOf z S3).bind fun c S4 => if c = true then (h sl S4).bind fun w S5 => k' y w S5 else .ok (.d (.bl false)) S4) R1 R21 p) fun w H2 ⟨m2, F2, S2, y, R3, R23, G2, r2, p2⟩ => ?_
  refine hp Hk σ m2 F2 S2 H2 v w x y _ R3 (r1.grow G2) r2 ?_
  generalize ho : k x y S2 = o at p2
  cases o with
  | bad => exact p2
  | exc c S' => exact p2
  | ok z S3 =>
    intro vz H3 m3 F3 R4 G3 rz
    obtain ⟨c, rfl, p3⟩ := bOf_rel rz (post_grow G3 p2)
    refine ⟨c, rfl, ?_⟩
    cases c with
    | false => exact p3 _ H3 m3 F3 R4 (Grow.refl _ _ _) (.d (.bl false))
    | true =>
      refine den_mono (den_step (k := fun w S5 => k' y w S5) R4 (R23.mono G3) p3) fun w' H4 ⟨m4, F4, S4, y', R5, R25, G4, r4, p4⟩ => ?_
      exact hp' Hk σ m4 F4 S4 H4 w w' y y' Q R5 ((r2.grow G3).grow G4) r4 p4
theorem de_chain {op op' : CmpOp} {r r' : R2} {a b c : Expr} {pos : Pos} {f g h : DE} {k k' : Val → Val → Sto → Out Val} (ho : OpR X (compareOp op) r) (ho' : OpR X (compareOp op') r') (ha : PE X a (denE B W f)) (hb : PE X b (denE B W g)) (hc : PE X c (denE B W h)) (hp : Prim2 B W r k) (hp' : Prim2 B W r' k')
    (hm : lastMarks [op, op'] [b, c] = false := by with_unfolding_all rfl) : PE X (.Compare a [op, op'] [b, c] pos) (denE B W (dChain f g h k k')) := PE_weak (pe_chain ho ho' ha hb hc hm) fun _ _ _ q => w_chain hp hp' q
theorem dt_chain {op op' : CmpOp} {r r' : R2} {a b c : Expr} {pos : Pos} {f g h : DE} {k k' : Val → Val → Sto → Out Val} (ho : OpR X (compareOp op) r) (ho' : OpR X (compareOp op') r') (ha : PE X a (denE B W f)) (hb : PE X b (denE B W g)) (hc : PE X c (denE B W h)) (hp : Prim2 B W r k) (hp' : Prim2 B W r' k')
    (hm : lastMarks [op, op'] [b, c] = false := by with_unfolding_all rfl) : PT X (.Compare a [op, op'] [b, c] pos) (denT B W (tB (dChain f g h k k'))) := dt_of (pt_chain ho ho' ha hb hc hm) fun _ _ _ q => w_chain hp hp' q
end
end Dn

set_option Elab.async false
set_option linter.all false
set_option maxRecDepth 100000
set_option maxHeartbeats 2000000
/-! Dn: statements. -/
namespace Dn
open PySem L2 PyProof.Rows

section
variable {X : Cx} {B : Bs} {W : WX}
theorem RSl.set {m : List Addr} {F : Hp} {sl : Sl} {σ : L2.St} {v : V} {x : Val} (R : RSl B m F sl σ) (i : Nat) (r : RelX B m F v x) : RSl B m F (sl.set i (some x)) (σ.set i (some v)) := by
  refine ⟨by simp [R.len], fun j y e => ?_⟩
  by_cases hj : j = i
  · subst hj
    have hl : j < sl.length := by
      have := (List.getElem?_eq_some_iff.mp e).1
      simpa using this
    rw [List.getElem?_set_self hl] at e
    cases e
    exact ⟨v, by rw [List.getElem?_set_self (by rw [R.len]; exact hl)], r⟩
  · rw [List.getElem?_set_ne (Ne.symm hj)] at e ⊢
    exact R.at_ j y e
theorem postS_nx {Hk : Hp} {m m1 : List Addr} {F H F1 H1 : Hp} {sl : Sl} {S : Sto} {σ : L2.St} {D : Ends} (h : postS B W Hk m F H (.nx sl S) D) (R : RH B Hk m1 F1 S H1) (R2 : RSl B m1 F1 sl σ) (G : Grow m F H m1 F1 H1) : D.nx σ H1 := h σ H1 m1 F1 R R2 G

/-! ### blocks -/
def sNil : DS := fun sl S => .nx sl S
def sSeq (f g : DS) : DS := fun sl S => match f sl S with
  | .nx sl' S' => g sl' S'
  | .ret x S' => .ret x S'
  | .bk sl' S' => .bk sl' S'
  | .ct sl' S' => .ct sl' S'
  | .exc c sl' S' => .exc c sl' S'
  | .bad => .bad
theorem ds_nil : PSs X [] (denS B W sNil) := PSs_weak pss_nil fun D σ H ⟨Hk, m, F, sl, S, R, R2, q⟩ => postS_nx q R R2 (Grow.refl _ _ _)
theorem ds_cons {st : Stmt} {rest : List Stmt} {f g : DS} (h1 : PS X st (denS B W f)) (h2 : PSs X rest (denS B W g)) : PSs X (st :: rest) (denS B W (sSeq f g)) :=
  PSs_weak (pss_cons h1 h2) fun D σ H ⟨Hk, m, F, sl, S, R, R2, q⟩ => ⟨Hk, m, F, sl, S, R, R2, by
    unfold sSeq at q
    cases e : f sl S with
    | nx sl' S' => rw [e] at q; exact fun σ' H' m' F' R' R2' G => ⟨Hk, m', F', sl', S', R', R2', postS_grow G q⟩
    | ret x S' => rw [e] at q; exact q
    | bk sl' S' => rw [e] at q; exact q
    | ct sl' S' => rw [e] at q; exact q
    | exc c sl' S' => rw [e] at q; exact q
    | bad => rw [e] at q; exact q⟩
theorem ds_one {st : Stmt} {f : DS} (h1 : PS X st (denS B W f)) : PSs X [st] (denS B W f) := pss_one h1

/-! ### small statements -/
def sBreak : DS := fun sl S => .bk sl S
def sCont : DS := fun sl S => .ct sl S
theorem ds_break {pos : Pos} : PS X (.Break pos) (denS B W sBreak) := PS_weak ps_break fun D σ H ⟨Hk, m, F, sl, S, R, R2, q⟩ => q σ H m F R R2 (Grow.refl _ _ _)
theorem ds_continue {pos : Pos} : PS X (.Continue pos) (denS B W sCont) := PS_weak ps_continue fun D σ H ⟨Hk, m, F, sl, S, R, R2, q⟩ => q σ H m F R R2 (Grow.refl _ _ _)
theorem ds_pass {pos : Pos} : PS X (.Pass pos) (denS B W sNil) := PS_weak ps_pass fun D σ H ⟨Hk, m, F, sl, S, R, R2, q⟩ => q σ H m F R R2 (Grow.refl _ _ _)
def sExpr (f : DE) : DS := fun sl S => (f sl S).fl sl fun _ S1 => .nx sl S1
theorem ds_expr {e : Expr} {f : DE} {pos : Pos} (he : PE X e (denE B W f)) (hs : swapsWith e none pos.line X.env = pure false := by rfl) : PS X (.Expr e pos) (denS B W (sExpr f)) :=
  PS_weak (ps_expr he hs) fun D σ H ⟨Hk, m, F, sl, S, R, R2, q⟩ => den_mono (denS_step (k := fun _ S1 => .nx sl S1) R R2 q) fun v H1 ⟨m1, F1, S1, x, R1, R21, G, r1, p⟩ => p σ H1 m1 F1 R1 R21 (Grow.refl _ _ _)
def sRet (f : DE) : DS := fun sl S => (f sl S).fl sl fun x S1 => .ret x S1
theorem ds_ret {e : Expr} {f : DE} {pos : Pos} (he : PE X e (denE B W f)) : PS X (.Return (some e) pos) (denS B W (sRet f)) :=
  PS_weak (ps_ret he) fun D σ H ⟨Hk, m, F, sl, S, R, R2, q⟩ => den_mono (denS_step (k := fun x S1 => .ret x S1) R R2 q) fun v H1 ⟨m1, F1, S1, x, R1, R21, G, r1, p⟩ => p v H1 m1 F1 R1 (Grow.refl _ _ _) r1
def sRetN : DS := fun _ S => .ret (.d .non) S
theorem ds_retN {pos : Pos} : PS X (.Return none pos) (denS B W sRetN) := PS_weak ps_retN fun D σ H ⟨Hk, m, F, sl, S, R, R2, q⟩ => q .non H m F R (Grow.refl _ _ _) (.d .non)
def sSet (i : Nat) (f : DE) : DS := fun sl S => (f sl S).fl sl fun x S1 => .nx (sl.set i (some x)) S1
theorem w_set {i : Nat} {f : DE} {D : Ends} {σ : L2.St} {H : Hp} (h : denS B W (sSet i f) D σ H) : tAsg (denE B W f) (gName i) D σ H := by
  obtain ⟨Hk, m, F, sl, S, R, R2, q⟩ := h
  exact den_mono (denS_step (k := fun x S1 => .nx (sl.set i (some x)) S1) R R2 q) fun v H1 ⟨m1, F1, S1, x, R1, R21, G, r1, p⟩ => p _ H1 m1 F1 R1 (R21.set i r1) (Grow.refl _ _ _)
theorem ds_set (i : Nat) {x : Str} {e : Expr} {f : DE} {pos pos' : Pos} (hN : X.N.Nodup) (he : PE X e (denE B W f)) (hi : X.N[i]? = some x := by rfl) (hx : Loc X.env.scope x := by first | exact Or.inl rfl | exact Or.inr rfl) (hs : swapsWith e (some (.Name x pos')) pos.line X.env = pure false := by rfl)
    (hf : X.fn x = true ∨ X.env.scope.names.lookup x = some .local := by first | exact .inl rfl | exact .inr rfl) : PS X (.Assign [.Name x pos'] e pos) (denS B W (sSet i f)) := PS_weak (ps_set hN hi hx he hs hf) fun _ _ _ q => w_set q
def sIf (t : DT) (f g : DS) : DS := fun sl S => (t sl S).fl sl fun c S1 => if c = true then f sl S1 else g sl S1
theorem ds_if {c : Expr} {a b : List Stmt} {t : DT} {f g : DS} {pos : Pos} (hc : PT X c (denT B W t)) (ha : PSs X a (denS B W f)) (hb : PSs X b (denS B W g)) : PS X (.If c a b pos) (denS B W (sIf t f g)) :=
  PS_weak (ps_if hc ha hb) fun D σ H ⟨Hk, m, F, sl, S, R, R2, q⟩ => den_mono (denS_step (k := fun c S1 => if c = true then f sl S1 else g sl S1) R R2 q) fun v H1 ⟨m1, F1, S1, x, R1, R21, G, r1, p⟩ => by
    cases r1
    cases v with
    | true => exact ⟨Hk, m1, F1, sl, S1, R1, R21, p⟩
    | false => exact ⟨Hk, m1, F1, sl, S1, R1, R21, p⟩
def sRaise (c : Nat) : DS := fun sl S => .exc c sl S
/-- an own error class of the text -/
structure ExA (B : Bs) (X : Cx) (x : Str) (c : Nat) : Prop where
  g : X.mg x = some (.ref (B.exA c))
  i : PySem.W.excIn X.K (B.exA c) [.type "ValueError", .type "Exception", .type "BaseException", .type "object"] "ValueError.__new__" = true
  k : PySem.W.keepIn X.K (.ref (B.exA c)) = true
  s : PySem.W.subIn X.K (.ref (B.exA c)) (.type "BaseException") = some true
  t : PySem.W.typeIn X.K (.ref (B.exA c)) = some (.type "type")
theorem ds_raise {x msg : Str} {c : Nat} {j : Nat} {p p2 pos pos2 : Pos} (hc : X.calm = true) (tk : L2N.Takes X W) (T : ExA B X x c) (hg : Gl X x) (hdb : (x == ("__debug__" : Str)) = false := by decide) :
    PS X (.Raise (some (.Call (.Name x p) [.Constant (.str msg) j p2] [] pos)) none pos2) (denS B W (sRaise c)) :=
  PS_weak (L2N.ps_raise hc tk (L2N.pmk_own PySem.F.excBase_ValueError T.i T.g T.k (raises_own T.s T.t) hg hdb)) fun D σ H ⟨Hk, m, F, sl, S, R, R2, q⟩ => q σ H m F R R2 (Grow.refl _ _ _)

/-! ### targets -/
abbrev DG := Val → Sl → Sto → Option (Sl × Sto)
abbrev DGs := List Val → Sl → Sto → Option (Sl × Sto)
/-- what is wanted behind a store -/
def postG (B : Bs) (Hk : Hp) (m : List Addr) (F H : Hp) (o : Option (Sl × Sto)) (Q : L2.St → Hp → Prop) : Prop := match o with
  | some (sl', S') => ∀ σ' H' m' F', RH B Hk m' F' S' H' → RSl B m' F' sl' σ' → Grow m F H m' F' H' → Q σ' H'
  | none => False
def denG (B : Bs) (t : DG) : TG := fun v σ H Q => ∃ Hk m F sl S x, RH B Hk m F S H ∧ RSl B m F sl σ ∧ RelX B m F v x ∧ postG B Hk m F H (t x sl S) Q
def denGs (B : Bs) (t : DGs) : TGs := fun vs σ H Q => ∃ Hk m F sl S xs, RH B Hk m F S H ∧ RSl B m F sl σ ∧ RelXs B m F vs xs ∧ postG B Hk m F H (t xs sl S) Q
theorem PG_weak {e : Expr} {t t' : TG} (h : PG X e t) (w : ∀ v σ H Q, t' v σ H Q → t v σ H Q) : PG X e t' := ⟨fun pins s σ H v u Q I r q => h.run pins s σ H v u Q I r (w v σ H Q q)⟩
theorem PGs_weak {e : List Expr} {t t' : TGs} (h : PGs X e t) (w : ∀ v σ H Q, t' v σ H Q → t v σ H Q) : PGs X e t' := ⟨fun pins s σ H v u Q I r q => h.run pins s σ H v u Q I r (w v σ H Q q)⟩
def nName (i : Nat) : DG := fun x sl S => some (sl.set i (some x), S)
theorem dg_name (i : Nat) {x : Str} {pos : Pos} (hN : X.N.Nodup) (hi : X.N[i]? = some x := by rfl) (hx : Loc X.env.scope x := by first | exact Or.inl rfl | exact Or.inr rfl) (hf : X.fn x = true ∨ X.env.scope.names.lookup x = some .local := by first | exact .inl rfl | exact .inr rfl) : PG X (.Name x pos) (denG B (nName i)) :=
  PG_weak (pg_name hN hi hx hf) fun v σ H Q ⟨Hk, m, F, sl, S, x, R, R2, r, q⟩ => q _ H m F R (R2.set i r) (Grow.refl _ _ _)
def nNil : DGs := fun xs sl S => match xs with
  | [] => some (sl, S)
  | _ => none
def nCons (t : DG) (u : DGs) : DGs := fun xs sl S => match xs with
  | x :: r => match t x sl S with
    | some (sl1, S1) => u r sl1 S1
    | none => none
  | [] => none
theorem dgs_nil : PGs X [] (denGs B nNil) := PGs_weak pgs_nil fun v σ H Q ⟨Hk, m, F, sl, S, xs, R, R2, r, q⟩ => by
  cases r with
  | nil => exact ⟨rfl, q σ H m F R R2 (Grow.refl _ _ _)⟩
  | cons _ _ => exact False.elim q
theorem dgs_cons {e : Expr} {es : List Expr} {t : DG} {u : DGs} (h1 : PG X e (denG B t)) (h2 : PGs X es (denGs B u)) (hs : (assignEach (e :: es) X.env).map (·.2) = assign e X.env :: (assignEach es X.env).map (·.2) := by rfl) : PGs X (e :: es) (denGs B (nCons t u)) :=
  PGs_weak (pgs_cons h1 h2 hs) fun vs σ H Q ⟨Hk, m, F, sl, S, xs, R, R2, r, q⟩ => by
    cases r with
    | nil => exact False.elim q
    | @cons v vs x xs r1 r2 =>
      refine ⟨v, vs, rfl, Hk, m, F, sl, S, x, R, R2, r1, ?_⟩
      simp only [nCons] at q
      cases e : t x sl S with
      | none => rw [e] at q; exact False.elim q
      | some p =>
        obtain ⟨sl1, S1⟩ := p
        rw [e] at q
        refine fun σ' H' m' F' R' R2' G => ⟨Hk, m', F', sl1, S1, xs, R', R2', r2.grow G, ?_⟩
        dsimp only at q
        cases e2 : u xs sl1 S1 with
        | none => rw [e2] at q; exact False.elim q
        | some p => obtain ⟨sl2, S2⟩ := p; rw [e2] at q; exact fun σ2 H2 m2 F2 R3 R23 G2 => q σ2 H2 m2 F2 R3 R23 (G.trans G2)
/-- the items of a tuple -/
def tupItems (S : Sto) : Val → Option (List Val)
  | .d (.tup ds) => some (ds.map .d)
  | .d _ => none
  | .r n => match S[n]? with
    | some (.tup xs) => some xs
    | some (.frz (.tup ds)) => some (ds.map .d)
    | _ => none
def lstItems (S : Sto) : Val → Option (List Val)
  | .d (.lst ds) => some (ds.map .d)
  | .d _ => none
  | .r n => match S[n]? with
    | some (.lst xs) => some xs
    | some (.frz (.lst ds)) => some (ds.map .d)
    | _ => none
theorem Rels.xs {m : List Addr} {F : Hp} : ∀ {vs : List V} {ds : List D}, Rels B F vs ds → RelXs B m F vs (ds.map .d)
  | _, _, .nil => .nil
  | _, _, .cons h r => .cons (.d h) (Rels.xs r)
theorem tup_items {Hk : Hp} {m : List Addr} {F H : Hp} {S : Sto} {v : V} {x : Val} {xs : List Val} (R : RH B Hk m F S H) (r : RelX B m F v x) (e : tupItems S x = some xs) : ∃ a vs, v = .ref a ∧ SqT B.K H a vs ∧ RelXs B m F vs xs := by
  cases r with
  | d r =>
    cases r with
    | tup q r => simp only [tupItems, Option.some.injEq] at e; subst e; exact ⟨_, _, rfl, SqT.same R.froz q, r.xs⟩
    | _ => cases e
  | r hn =>
    rename_i n a
    simp only [tupItems] at e
    split at e
    · rename_i ys hs
      cases e
      obtain ⟨_, vs, ha, r⟩ := R.cell n a _ hn hs
      exact ⟨a, vs, rfl, SqT.of ha, r⟩
    · rename_i ds hs
      cases e
      have r : Rel B F (.ref a) (.tup ds) := R.cell n a _ hn hs
      cases r with
      | tup q r => exact ⟨_, _, rfl, SqT.same R.froz q, r.xs⟩
    · cases e
def nTup (k : Nat) (t : DGs) : DG := fun x sl S => match tupItems S x with
  | some xs => if xs.length = k then t xs sl S else none
  | none => none
theorem dg_tup {es : List Expr} {k k2 : Nat} {pos : Pos} {t : DGs} (hB : BX B X) (hc : X.calm = true) (h : PGs X es (denGs B t)) (hn : (assignEach es X.env).length = k := by rfl) (hst : (assignEach es X.env).findIdx? (·.1) = none := by rfl) : PG X (.Tuple es k2 pos) (denG B (nTup k t)) :=
  PG_weak (pg_tup hc h hn hst) fun v σ H Q ⟨Hk, m, F, sl, S, x, R, R2, r, q⟩ => by
    simp only [nTup] at q
    cases e : tupItems S x with
    | none => rw [e] at q; exact False.elim q
    | some xs =>
      rw [e] at q
      dsimp only at q
      obtain ⟨a, vs, rfl, h1, h2⟩ := tup_items R r e
      by_cases hk : xs.length = k
      · rw [if_pos hk] at q
        exact ⟨a, vs, rfl, hB.K ▸ h1, h2.len.trans hk, Hk, m, F, sl, S, xs, R, R2, h2, q⟩
      · rw [if_neg hk] at q; exact False.elim q
/-- target = value -/
def sAsg (f : DE) (t : DG) : DS := fun sl S => (f sl S).fl sl fun x S1 => match t x sl S1 with
  | some (sl', S') => .nx sl' S'
  | none => .bad
theorem w_asg {f : DE} {t : DG} {D : Ends} {σ : L2.St} {H : Hp} (h : denS B W (sAsg f t) D σ H) : tAsg (denE B W f) (denG B t) D σ H := by
  obtain ⟨Hk, m, F, sl, S, R, R2, q⟩ := h
  refine den_mono (denS_step (k := fun x S1 => match t x sl S1 with | some (sl', S') => .nx sl' S' | none => .bad) R R2 q) fun v H1 ⟨m1, F1, S1, x, R1, R21, G, r1, p⟩ => ?_
  refine ⟨Hk, m1, F1, sl, S1, x, R1, R21, r1, ?_⟩
  cases e : t x sl S1 with
  | none => rw [e] at p; exact False.elim p
  | some y => obtain ⟨sl', S'⟩ := y; rw [e] at p; exact fun σ' H' m' F' R' R2' G' => p σ' H' m' F' R' R2' G'
theorem ds_asg {tg e : Expr} {f : DE} {t : DG} {pos : Pos} (he : PE X e (denE B W f)) (hg : PG X tg (denG B t)) (hs : swapsWithSole [tg] e pos.line X.env = pure false := by rfl) (hw : swappedStores [tg] e X.env = pure none := by rfl)
    (h1 : (assignEach [tg] X.env).map (·.2) = [assign tg X.env] := by rfl) : PS X (.Assign [tg] e pos) (denS B W (sAsg f t)) := PS_weak (ps_asg he hg hs hw h1) fun _ _ _ q => w_asg q
/-- a, b = x, y with local names -/
def parK (i j : Nat) (sl : Sl) (xs : List Val) (S1 : Sto) : Fl := match xs with
  | [x, y] => .nx ((sl.set i (some x)).set j (some y)) S1
  | _ => .bad
def sPar (i j : Nat) (fa : DA) : DS := fun sl S => (fa sl S).fl sl (parK i j sl)
theorem ds_par (i j : Nat) {x y : Str} {a b : Expr} {fa : DA} {px py pt pos : Pos} {kt k2 pt2} (hc : X.calm = true) (hN : X.N.Nodup) (ha : PA X [a, b] (denA B W fa)) (hi : X.N[i]? = some x := by rfl) (hj : X.N[j]? = some y := by rfl) (hij : i ≠ j := by decide)
    (hx : X.env.scope.names.lookup x = some .local := by rfl) (hy : X.env.scope.names.lookup y = some .local := by rfl)
    (hw : swappedStores [.Tuple [.Name x px, .Name y py] kt pt] (.Tuple [a, b] k2 pt2) X.env = pure (some [x, y]) := by rfl)
    (hs : swapsWithSole [.Tuple [.Name x px, .Name y py] kt pt] (.Tuple [a, b] k2 pt2) pos.line X.env = pure false := by rfl) :
    PS X (.Assign [.Tuple [.Name x px, .Name y py] kt pt] (.Tuple [a, b] k2 pt2) pos) (denS B W (sPar i j fa)) :=
  PS_weak (ps_par hc hN hi hj hij hx hy ha hw hs) fun D σ H ⟨Hk, m, F, sl, S, R, R2, q⟩ =>
    den_mono (denS_step (k := parK i j sl) R R2 q) fun vs H1 ⟨m1, F1, S1, xs, R1, R21, G, r1, p⟩ => by
      cases r1 with
      | nil => exact False.elim p
      | cons r1 r =>
        cases r with
        | nil => exact False.elim p
        | cons r2 r =>
          cases r with
          | nil => exact ⟨_, _, rfl, p _ H1 m1 F1 R1 ((R21.set i r1).set j r2) (Grow.refl _ _ _)⟩
          | cons _ _ => exact False.elim p
def parK3 (i j l : Nat) (sl : Sl) (xs : List Val) (S1 : Sto) : Fl := match xs with
  | [x, y, z] => .nx (((sl.set i (some x)).set j (some y)).set l (some z)) S1
  | _ => .bad
def sPar3 (i j l : Nat) (fa : DA) : DS := fun sl S => (fa sl S).fl sl (parK3 i j l sl)
theorem ds_par3 (i j l : Nat) {x y z : Str} {a b c : Expr} {fa : DA} {px py pz pt pos : Pos} {kt k2 pt2} (hc : X.calm = true) (hN : X.N.Nodup) (ha : PA X [a, b, c] (denA B W fa)) (hi : X.N[i]? = some x := by rfl) (hj : X.N[j]? = some y := by rfl) (hl : X.N[l]? = some z := by rfl)
    (hij : i ≠ j := by decide) (hil : i ≠ l := by decide) (hjl : j ≠ l := by decide)
    (hx : X.env.scope.names.lookup x = some .local := by rfl) (hy : X.env.scope.names.lookup y = some .local := by rfl) (hz : X.env.scope.names.lookup z = some .local := by rfl)
    (hw : swappedStores [.Tuple [.Name x px, .Name y py, .Name z pz] kt pt] (.Tuple [a, b, c] k2 pt2) X.env = pure (some [x, y, z]) := by rfl)
    (hs : swapsWithSole [.Tuple [.Name x px, .Name y py, .Name z pz] kt pt] (.Tuple [a, b, c] k2 pt2) pos.line X.env = pure false := by rfl) :
    PS X (.Assign [.Tuple [.Name x px, .Name y py, .Name z pz] kt pt] (.Tuple [a, b, c] k2 pt2) pos) (denS B W (sPar3 i j l fa)) :=
  PS_weak (ps_par3 hc hN hi hj hl hij hil hjl hx hy hz ha hw hs) fun D σ H ⟨Hk, m, F, sl, S, R, R2, q⟩ =>
    den_mono (denS_step (k := parK3 i j l sl) R R2 q) fun vs H1 ⟨m1, F1, S1, xs, R1, R21, G, r1, p⟩ => by
      cases r1 with
      | nil => exact False.elim p
      | cons r1 r =>
        cases r with
        | nil => exact False.elim p
        | cons r2 r =>
          cases r with
          | nil => exact False.elim p
          | cons r3 r =>
            cases r with
            | nil => exact ⟨_, _, _, rfl, p _ H1 m1 F1 R1 (((R21.set i r1).set j r2).set l r3) (Grow.refl _ _ _)⟩
            | cons _ _ => exact False.elim p
end
end Dn

set_option Elab.async false
set_option linter.all false
set_option maxRecDepth 100000
set_option maxHeartbeats 2000000
/-! Dn: defs and their calls. -/
namespace Dn
open PySem L2 PyProof.Rows

/-- what a def of data alone gives -/
inductive Ret where
  | ok (d : D) | exc (c : Nat) | bad
def startD (n : Nat) (ds : List D) : Sl := (ds.map fun d => some (.d d)) ++ List.replicate (n - ds.length) none
def startX (n : Nat) (xs : List Val) : Sl := xs.map some ++ List.replicate (n - xs.length) none
def retOf : Fl → Ret
  | .nx _ _ => .ok .non
  | .ret x S' => match toD x S' with
    | .ok d _ => .ok d
    | _ => .bad
  | .exc c _ _ => .exc c
  | .bk _ _ => .bad
  | .ct _ _ => .bad
  | .bad => .bad
/-- a def of data alone: n names -/
def pureOf (n : Nat) (g : DS) : List D → Ret := fun ds => retOf (g (startD n ds) [])
def outOf : Fl → Out Val
  | .nx _ S => .ok (.d .non) S
  | .ret x S => .ok x S
  | .exc c _ S => .exc c S
  | .bk _ _ => .bad
  | .ct _ _ => .bad
  | .bad => .bad
def methOf (n : Nat) (g : DS) : List Val → Sto → Out Val := fun xs S => outOf (g (startX n xs) S)
def valOk (n : Nat) : Val → Bool
  | .d _ => true
  | .r k => decide (k < n)
def cellOk (n : Nat) : Cell → Bool
  | .lst xs => xs.all (valOk n)
  | .tup xs => xs.all (valOk n)
  | .dct kvs => kvs.all fun kv => valOk n kv.2
  | .dck kvs => kvs.all fun kv => valOk n kv.2
  | .obj _ fs => fs.all fun o => match o with
    | some x => valOk n x
    | none => true
  | .frz _ => true
  | .lck kvs => kvs.all fun kv => valOk n kv.2
def truncO (n : Nat) : Out Val → Out Val
  | .ok x S' => match toD x S' with
    | .ok d S2 => if (S2.take n).all (cellOk n) then .ok (.d d) (S2.take n) else .bad
    | _ => .bad
  | .exc c S' => if (S'.take n).all (cellOk n) then .exc c (S'.take n) else .bad
  | .bad => .bad
/-- a method that keeps none of its own cells -/
def methT (n : Nat) (g : DS) : List Val → Sto → Out Val := fun xs S => truncO S.length (methOf n g xs S)

abbrev wE (E : XK) : WX := fun cls d _ H => E cls d H
def spP (B : Bs) (n : Nat) (Fp : List D → Ret) : Sp := fun vs H Q E => ∃ F ds, Same F H ∧ (∀ a ps, F a ≠ some (.tbl ps)) ∧ Rels B F vs ds ∧ vs.length = n ∧ match Fp ds with
  | .ok d => ∀ v H' F', Same H H' → Same F F' → Same F' H' → (∀ a ps, F' a ≠ some (.tbl ps)) → (∀ b, F b = none → H b ≠ none → F' b = none) → Rel B F' v d → Q v H'
  | .exc c => ∀ H', Same H H' → E (.ref (B.exA c)) none H'
  | .bad => False
def spM (B : Bs) (n : Nat) (Fm : List Val → Sto → Out Val) : Sp := fun vs H Q E => ∃ Hk m F S xs, RH B Hk m F S H ∧ RelXs B m F vs xs ∧ vs.length = n ∧ post B (wE E) (relE B) Hk [] m F H (Fm xs S) Q

section
variable {B : Bs}
theorem start_rel {m : List Addr} {F : Hp} {vs : List V} {xs : List Val} {N : List Str} (r : RelXs B m F vs xs) : RSl B m F (startX N.length xs) (L2.start N vs) := by
  refine ⟨by simp [startX, L2.start, r.len], fun i x e => ?_⟩
  unfold startX at e
  by_cases hi : i < xs.length
  · rw [List.getElem?_append_left (by simpa using hi), List.getElem?_map] at e
    cases q : xs[i]? with
    | none => rw [q] at e; cases e
    | some y =>
      rw [q] at e
      simp at e
      subst e
      obtain ⟨v, h1, h2⟩ := r.get q
      refine ⟨v, ?_, h2⟩
      unfold L2.start
      rw [List.getElem?_append_left (by rw [List.length_map, r.len]; exact hi), List.getElem?_map, h1]
      rfl
  · rw [List.getElem?_append_right (by simpa using Nat.le_of_not_lt hi)] at e
    rw [List.getElem?_replicate] at e
    split at e <;> cases e
theorem startD_eq (n : Nat) (ds : List D) : startD n ds = startX n (ds.map .d) := by simp [startD, startX, Function.comp_def]
theorem RH.ext {Hk : Hp} {m : List Addr} {F H F' H' : Hp} {S : Sto} (R : RH B Hk m F S H) (h1 : Same H H') (h2 : Same F F') (h3 : Same F' H') (h5 : ∀ a ps, F' a ≠ some (.tbl ps)) (h4 : ∀ b, F b = Option.none → H b ≠ Option.none → F' b = Option.none) : RH B Hk m F' S H' ∧ Grow m F H m F' H' := by
  have eq : ∀ a ∈ m, H' a = H a := fun a ha => by
    cases q : H a with
    | none => exact absurd q (R.there a ha)
    | some o => exact h1 a o q
  refine ⟨⟨R.keep.trans h1, h3, R.len, R.nd, fun a ha => by rw [eq a ha]; exact R.there a ha, R.free, h5, fun a ha o e => R.nc a ha o (by rw [eq a ha] at e; exact e), B.jp.ext R.j h1, fun n a c e1 e2 => (R.cell n a c e1 e2).keep ⟨[], by simp⟩ h2 (eq a (mem_get e1)) fun e => h4 a e (R.there a (mem_get e1))⟩,
    ⟨⟨[], by simp⟩, fun _ h => .inl h, h2, fun b e1 e2 _ => h4 b e1 e2, fun b h => ?_⟩⟩
  cases q : H b with
  | none => exact absurd q h
  | some o => rw [h1 b o q]; simp
theorem RH.zero {H F : Hp} (f : Same F H) (hn : ∀ a ps, F a ≠ some (.tbl ps)) (hj : B.jp.J H [] H) : RH B H [] F [] H := ⟨fun _ _ h => h, f, rfl, List.nodup_nil, (fun _ h => nomatch h), (fun _ h => nomatch h), hn, (fun _ h => nomatch h), hj, fun n a c h _ => by simp at h⟩
end

section
variable {P : Program} {w : World} {K : PySem.W.Frag} {mg : Str → Option Value} {base : Heap} {B : Bs}
theorem valOk_rel {m more : List Addr} {F : Hp} {v : V} {x : Val} (h : RelX B (m ++ more) F v x) (e : valOk m.length x = true) : RelX B m F v x := by
  cases h with
  | d h => exact .d h
  | r h =>
    have e : _ < m.length := of_decide_eq_true e
    rw [List.getElem?_append_left e] at h
    exact .r h
theorem cut_vals {m more : List Addr} {F : Hp} : ∀ {vs : List V} {xs : List Val}, RelXs B (m ++ more) F vs xs → xs.all (valOk m.length) = true → RelXs B m F vs xs
  | _, _, .nil, _ => .nil
  | _, _, .cons h r, e => by
    rw [List.all_cons, Bool.and_eq_true] at e
    exact .cons (valOk_rel h e.1) (cut_vals r e.2)
theorem cut_ents {m more : List Addr} {F : Hp} : ∀ {vs : List Ent} {xs : List (NestedKey × Val)}, EntXs B (m ++ more) F vs xs → (xs.all fun kv => valOk m.length kv.2) = true → EntXs B m F vs xs
  | _, _, .nil, _ => .nil
  | _, _, .cons h h0 h1 h2 r, e => by
    rw [List.all_cons, Bool.and_eq_true] at e
    exact .cons h h0 h1 (valOk_rel h2 e.1) (cut_ents r e.2)
theorem cut_kvs {m more : List Addr} {F : Hp} : ∀ {vs : List (Key × V)} {xs : List (Key × Val)}, KvXs B (m ++ more) F vs xs → (xs.all fun kv => valOk m.length kv.2) = true → KvXs B m F vs xs
  | _, _, .nil, _ => .nil
  | _, _, .cons h r, e => by
    rw [List.all_cons, Bool.and_eq_true] at e
    exact .cons (valOk_rel h e.1) (cut_kvs r e.2)
theorem cut_cell {m more : List Addr} {F H : Hp} {a : Addr} {c : Cell} (h : CellR B (m ++ more) F H a c) (e : cellOk m.length c = true) : CellR B m F H a c := by
  cases c with
  | lst xs => obtain ⟨e0, vs, ha, r⟩ := h; exact ⟨e0, vs, ha, cut_vals r e⟩
  | tup xs => obtain ⟨e0, vs, ha, r⟩ := h; exact ⟨e0, vs, ha, cut_vals r e⟩
  | dct kvs => obtain ⟨e0, o, es, ha, r⟩ := h; exact ⟨e0, o, es, ha, cut_ents r e⟩
  | dck kvs => obtain ⟨e0, vs, ha, r⟩ := h; exact ⟨e0, vs, ha, cut_kvs r e⟩
  | obj C fs =>
    obtain ⟨e0, dx, vs, ha, l, l2, n, r⟩ := h
    refine ⟨e0, dx, vs, ha, l, l2, n, fun i nm y h1 h2 => ?_⟩
    have q := r i nm y h1 h2
    have e1 := List.all_eq_true.mp (show (fs.all fun o => match o with | some x => valOk m.length x | none => true) = true from e) y (List.mem_of_getElem? h2)
    cases y with
    | none => cases hv : vs.lookup nm with
      | none => trivial
      | some v => rw [hv] at q; exact q.elim
    | some y => cases hv : vs.lookup nm with
      | none => rw [hv] at q; exact q.elim
      | some v => rw [hv] at q; exact valOk_rel q e1
  | frz x => exact h
  | lck kvs => obtain ⟨o, vs, ha, r⟩ := h; exact ⟨o, vs, ha, cut_kvs r e⟩
theorem RH.cut {Hk : Hp} {m more : List Addr} {F H : Hp} {S : Sto} (R : RH B Hk (m ++ more) F S H) (e : (S.take m.length).all (cellOk m.length) = true) : RH B Hk m F (S.take m.length) H := by
  have hl := R.len
  rw [List.length_append] at hl
  refine ⟨R.keep, R.froz, by rw [List.length_take]; omega, (List.nodup_append.mp R.nd).1, fun a ha => R.there a (List.mem_append_left _ ha), fun a ha => R.free a (List.mem_append_left _ ha), R.nt, fun a ha => R.nc a (List.mem_append_left _ ha), B.jp.cut R.j, fun n a c h1 h2 => ?_⟩
  have hn := (List.getElem?_eq_some_iff.mp h1).1
  have h2' : S[n]? = some c := by rw [List.getElem?_take_of_lt hn] at h2; exact h2
  have h1' : (m ++ more)[n]? = some a := by rw [List.getElem?_append_left hn]; exact h1
  exact cut_cell (R.cell n a c h1' h2') (List.all_eq_true.mp e c (List.mem_of_getElem? h2))
theorem Grow.cut {m more m1 : List Addr} {F H F' H' : Hp} (G : Grow m F H m1 F' H') : Grow m F H m F' H' := ⟨⟨[], by simp⟩, fun _ h => .inl h, G.ff, G.fr, G.hh⟩
theorem post_trunc {Hk : Hp} {σ : L2.St} {W : WX} {m : List Addr} {F H : Hp} {S : Sto} {o : Out Val} {Q : VK} (hl : m.length = S.length) (h : post B W (relE B) Hk σ m F H (truncO S.length o) Q) : post B W (relE B) Hk σ m F H o Q := by
  cases o with
  | ok x S' =>
    intro v H' m' F' R G rx
    simp only [truncO] at h
    cases e2 : toD x S' with
    | ok d S2 =>
      rw [e2] at h
      dsimp only at h
      obtain ⟨F2, R2, G2, r2⟩ := keepD R rx e2
      split at h
      · rename_i hc
        obtain ⟨more, rfl⟩ := G.mm
        rw [← hl] at h hc
        exact h v H' m F2 (R2.cut hc) ((G.trans G2).cut (more := more)) (.d r2)
      · exact False.elim h
    | exc c S2 => rw [e2] at h; exact False.elim h
    | bad => rw [e2] at h; exact False.elim h
  | exc c S' =>
    intro H' m' F' R G
    simp only [truncO] at h
    split at h
    · rename_i hc
      obtain ⟨more, rfl⟩ := G.mm
      rw [← hl] at h hc
      exact h H' m F' (R.cut hc) (G.cut (more := more))
    · exact False.elim h
  | bad => exact h
end
end Dn

set_option Elab.async false
set_option linter.all false
set_option maxRecDepth 100000
set_option maxHeartbeats 2000000
/-! Dn: calls of defs, methods, classes. -/
namespace Dn
open PySem L2 PyProof.Rows

def retOut (r : Ret) (S : Sto) : Out Val := match r with
  | .ok d => .ok (.d d) S
  | .exc c => .exc c S
  | .bad => .bad
@[simp] theorem retOut_ok (d : D) (S : Sto) : retOut (.ok d) S = .ok (.d d) S := rfl
@[simp] theorem retOut_exc (c : Nat) (S : Sto) : retOut (.exc c) S = .exc c S := rfl
def dCall (Fp : List D → Ret) (f : DA) : DE := dA f fun xs S => (toDs xs S).bind fun ds S1 => retOut (Fp ds) S1
def dCall0 (Fp : List D → Ret) : DE := fun _ S => retOut (Fp []) S
section
variable {X : Cx} {B : Bs} {W : WX}
theorem spP_of {Hk : Hp} {σ : L2.St} {m : List Addr} {F H : Hp} {S : Sto} {vs : List V} {xs : List Val} {Q : VK} {Fp : List D → Ret} {n : Nat} (R : RH B Hk m F S H) (r : RelXs B m F vs xs) (hn : vs.length = n)
    (p : post B W (relE B) Hk σ m F H ((toDs xs S).bind fun ds S1 => retOut (Fp ds) S1) Q) : spP B n Fp vs H Q (WE W σ) := by
  obtain ⟨ds, F', S', R', G, h, p⟩ := post_toDs R r p
  refine ⟨F', ds, R'.froz, R'.nt, h, hn, ?_⟩
  cases e : Fp ds with
  | ok d =>
    rw [e] at p
    intro v H' F2 s1 s2 s3 nt fr rv
    obtain ⟨R2, G2⟩ := R'.ext s1 s2 s3 nt fr
    exact p v H' m F2 R2 G2 (.d rv)
  | exc c =>
    rw [e] at p
    intro H' s1
    obtain ⟨R2, G2⟩ := R'.ext s1 (fun _ _ h => h) (R'.froz.trans s1) R'.nt (fun _ h _ => h)
    exact p H' m F' R2 G2
  | bad => rw [e] at p; exact p
theorem den_aLen {fa : DA} {σ : L2.St} {H : Hp} {Q : List V → Hp → Prop} {n : Nat} (hf : ∀ sl S xs S', fa sl S = .ok xs S' → xs.length = n) (h : denA B W fa σ H Q) : denA B W fa σ H (fun vs H1 => vs.length = n ∧ Q vs H1) := by
  obtain ⟨Hk, m, F, sl, S, R, R2, q⟩ := h
  refine ⟨Hk, m, F, sl, S, R, R2, ?_⟩
  cases e : fa sl S with
  | ok xs S' => rw [e] at q; exact fun v H' m' F' R G r => ⟨r.len.trans (hf sl S xs S' e), q v H' m' F' R G r⟩
  | exc c S' => rw [e] at q; exact q
  | bad => rw [e] at q; exact q
def lenA (fa : DA) (n : Nat) : Prop := ∀ sl S xs S', fa sl S = .ok xs S' → xs.length = n
theorem len_nil : lenA aNil 0 := fun _ _ _ _ h => by cases h; rfl
theorem len_cons {f : DE} {fa : DA} {n : Nat} (h : lenA fa n) : lenA (aCons f fa) (n + 1) := fun sl S xs S' e => by
  unfold aCons at e
  cases q : f sl S with
  | ok x S1 =>
    rw [q, Out.bind_ok] at e
    cases q2 : fa sl S1 with
    | ok ys S2 =>
      rw [q2, Out.bind_ok] at e
      simp only [Out.ok.injEq] at e
      obtain ⟨rfl, rfl⟩ := e
      rw [List.length_cons, h sl S1 ys _ q2]
    | exc _ _ => rw [q2] at e; cases e
    | bad => rw [q2] at e; cases e
  | exc _ _ => rw [q] at e; cases e
  | bad => rw [q] at e; cases e
section
variable {k : Nat} {f C : Addr} {fd : FuncData} {ps : List Str} {x m : Str} {p pos apos : Pos} {e o : Expr} {es : List Expr} {fa : DA} {fo : DE} {n : Nat}
theorem de_call {Fp : List D → Ret} (tk : L2N.Takes X W) (F : FnOk X.prog X.w X.K X.mg X.base (L2N.CX X.prog X.w) k f fd ps (spP B n Fp)) (hr : Room k X.A) (hm : X.mg x = some (.ref f)) (hk : PySem.W.keepIn X.K (.ref f) = true) (hb : Binds X.K fd ps []) (hg : Gl X x)
    (ha : PA X (e :: es) (denA B W fa)) (hl : lenA fa n) (hdb : (x == ("__debug__" : Str)) = false := by decide) (he : starEach (e :: es) X.env = (false, eval e X.env) :: starEach es X.env := by rfl) (hpl : (backTo pos (starEach es X.env)).any (·.1) = false := by rfl) :
    PE X (.Call (.Name x p) (e :: es) [] pos) (denE B W (dCall Fp fa)) :=
  PE_weak (pe_callS F hr hg hm hk hb (L2N.passAt tk) ha hdb he hpl) fun σ H Q ⟨Hk, m, F, sl, S, R, R2, q⟩ => by
    have h1 := den_step (rel := relA B) (rel2 := relE B) (k := fun xs S => (toDs xs S).bind fun ds S1 => retOut (Fp ds) S1) R R2 q
    exact den_mono (den_aLen hl h1) fun vs H1 ⟨hn, m1, F1, S1, xs, R1, R21, G, r1, p⟩ => spP_of R1 r1 hn p
theorem pe_call0S {sp : Sp} {E : L2.St → XK} (F : FnOk X.prog X.w X.K X.mg X.base (L2N.CX X.prog X.w) k f fd ps sp) (hr : Room k X.A) (hg : Gl X x) (hm : X.mg x = some (.ref f)) (hk : PySem.W.keepIn X.K (.ref f) = true) (hb : Binds X.K fd ps []) (hx : ∀ σ, PassesAt (L2N.CX X.prog X.w) X σ (E σ))
    (hdb : (x == ("__debug__" : Str)) = false := by decide) : PE X (.Call (.Name x p) [] [] pos) (fun σ H Q => sp [] H Q (E σ)) := by
  refine ⟨fun pins s σ H Q I h => ?_⟩
  refine wpAny_Call_Name_kw (ld_glob I hg hm ?_ hdb)
  exact PySem.W.callWith_K0 I.kIn hk (run_fnS (us := []) F hr hb (hx σ) I .nil h)
/-- a method, its receiver a cell -/
def dMeth (Fm : List Val → Sto → Out Val) (C : Nat) (fo : DE) (fa : DA) : DE := fun sl S => (fo sl S).bind fun x S1 => match x with
  | .r n => match S1[n]? with
    | some (.obj C' _) => if C' = C then (fa sl S1).bind fun xs S2 => Fm (x :: xs) S2 else .bad
    | _ => .bad
  | .d _ => .bad
theorem pe_methS {sp : Sp} {E : L2.St → XK} {ta : TE} {t : TA} {pl : Sem Bool} (he : PE X o ta) (c : Cls X.K C) (hm : Meth X.K C m f) (F : FnOk X.prog X.w X.K X.mg X.base (L2N.CX X.prog X.w) k f fd ps sp) (hr : Room k X.A) (hb : Binds X.K fd ps []) (hx : ∀ σ, PassesAt (L2N.CX X.prog X.w) X σ (E σ)) (ha : PA X (e :: es) t)
    (hst : starEach (e :: es) X.env = (false, eval e X.env) :: starEach es X.env) (hpl : (backTo pos (starEach es X.env)).any (·.1) = false)
    (ht : eval (.Call (.Attribute o m apos) (e :: es) [] pos) X.env = (do
      let ov ← eval o X.env
      standAt apos.atName
      let (f, first) ← holding [ov] (getMethod ov m pl)
      callWith pos f first (backTo pos (starEach (e :: es) X.env)) (backToKw pos (keywordEach [] X.env)))) :
    PE X (.Call (.Attribute o m apos) (e :: es) [] pos) (fun σ H Q => ta σ H fun x H1 => ∃ a dx fs, x = .ref a ∧ H1 a = some (.ins C dx fs) ∧ fs.lookup m = none ∧ t σ H1 fun vs H2 => sp (x :: vs) H2 Q (E σ)) := by
  refine ⟨fun pins s σ H Q I h => ?_⟩
  refine PySem.W.methodCall_KW (pl := pl) (thn (he.run pins s σ H _ I h) fun u s1 ⟨x, H1, I1, rx, a, dx, fs, ex, ea, l, q⟩ => ?_) ht
  subst ex
  obtain rfl : u = Value.ref a := rx
  refine getmeth_ok I1 ea c hm l ?_
  refine PySem.W.callWith_K (first := [.ref a]) (h₀ := X.base) I.ok.mod.kin hm.kp (thn (ha.run pos pins s1 σ H1 _ I1 q) fun us s2 ⟨vs, H2, I2, r, q2⟩ => ⟨I2.kIn, ?_⟩) hst hpl
  exact run_fnS (us := .ref a :: us) (vs := .ref a :: vs) F hr hb (hx σ) I2 (.cons rfl r) q2
theorem pe_meth0S {sp : Sp} {E : L2.St → XK} {ta : TE} {pl : Sem Bool} (he : PE X o ta) (c : Cls X.K C) (hm : Meth X.K C m f) (F : FnOk X.prog X.w X.K X.mg X.base (L2N.CX X.prog X.w) k f fd ps sp) (hr : Room k X.A) (hb : Binds X.K fd ps []) (hx : ∀ σ, PassesAt (L2N.CX X.prog X.w) X σ (E σ))
    (ht : eval (.Call (.Attribute o m apos) [] [] pos) X.env = (do
      let ov ← eval o X.env
      standAt apos.atName
      let (f, first) ← holding [ov] (getMethod ov m pl)
      callWith pos f first (backTo pos (starEach [] X.env)) (backToKw pos (keywordEach [] X.env)))) :
    PE X (.Call (.Attribute o m apos) [] [] pos) (fun σ H Q => ta σ H fun x H1 => ∃ a dx fs, x = .ref a ∧ H1 a = some (.ins C dx fs) ∧ fs.lookup m = none ∧ sp [x] H1 Q (E σ)) := by
  refine ⟨fun pins s σ H Q I h => ?_⟩
  refine PySem.W.methodCall_KW (pl := pl) (thn (he.run pins s σ H _ I h) fun u s1 ⟨x, H1, I1, rx, a, dx, fs, ex, ea, l, q⟩ => ?_) ht
  subst ex
  obtain rfl : u = Value.ref a := rx
  refine getmeth_ok I1 ea c hm l ?_
  exact PySem.W.callWith_K0 (first := [.ref a]) I1.kIn hm.kp (run_fnS (us := [.ref a]) (vs := [.ref a]) F hr hb (hx σ) I1 (.cons rfl .nil) q)
/-- the receiver of a method -/
theorem recv_of {Hk : Hp} {m0 : List Addr} {F H : Hp} {S : Sto} {v : V} {c nr : Nat} {fs : List (Option Val)} (R : RH B Hk m0 F S H) (r : RelX B m0 F v (.r nr)) (e : S[nr]? = some (.obj c fs)) (hm : m ∉ B.fN c) : ∃ a dx vs, v = .ref a ∧ H a = some (.ins (B.clA c) dx vs) ∧ vs.lookup m = none := by
  cases r with
  | r hn =>
    obtain ⟨_, dx, vs, h1, h2, h3, h4, h5⟩ := R.cell _ _ _ hn e
    exact ⟨_, dx, vs, rfl, h1, h4 m hm⟩
theorem de_meth {Fm : List Val → Sto → Out Val} {c : Nat} {pl : Sem Bool} (tk : L2N.Takes X W) (he : PE X o (denE B W fo)) (cl : Cls X.K (B.clA c)) (hm : Meth X.K (B.clA c) m f) (F : FnOk X.prog X.w X.K X.mg X.base (L2N.CX X.prog X.w) k f fd ps (spM B (n + 1) Fm)) (hr : Room k X.A) (hb : Binds X.K fd ps [])
    (ha : PA X (e :: es) (denA B W fa)) (hl : lenA fa n) (hno : m ∉ B.fN c) (hst : starEach (e :: es) X.env = (false, eval e X.env) :: starEach es X.env := by rfl) (hpl : (backTo pos (starEach es X.env)).any (·.1) = false := by rfl)
    (ht : eval (.Call (.Attribute o m apos) (e :: es) [] pos) X.env = (do
      let ov ← eval o X.env
      standAt apos.atName
      let (f, first) ← holding [ov] (getMethod ov m pl)
      callWith pos f first (backTo pos (starEach (e :: es) X.env)) (backToKw pos (keywordEach [] X.env))) := by rfl) :
    PE X (.Call (.Attribute o m apos) (e :: es) [] pos) (denE B W (dMeth Fm c fo fa)) :=
  PE_weak (pe_methS (E := WE W) he cl hm F hr hb (L2N.passAt tk) ha hst hpl ht) fun σ H Q ⟨Hk, m0, F0, sl, S, R, R2, q⟩ => by
    refine den_mono (den_step (rel := relE B) (rel2 := relE B) (k := fun x S1 => match x with | .r n => (match S1[n]? with | some (.obj C' _) => if C' = c then (fa sl S1).bind fun xs S2 => Fm (x :: xs) S2 else .bad | _ => .bad) | .d _ => .bad) R R2 q) fun v H1 ⟨m1, F1, S1, x, R1, R21, G, r1, p⟩ => ?_
    cases x with
    | d x => exact False.elim p
    | r nr =>
      dsimp only at p
      cases e1 : S1[nr]? with
      | none => rw [e1] at p; exact False.elim p
      | some cell =>
        rw [e1] at p
        cases cell with
        | obj c' fs =>
          dsimp only at p
          split at p
          · rename_i hc
            subst hc
            obtain ⟨a, dx, vs, rfl, h1, h2⟩ := recv_of R1 r1 e1 hno
            refine ⟨a, dx, vs, rfl, h1, h2, ?_⟩
            refine den_mono (den_aLen hl (den_step (rel := relA B) (rel2 := relE B) (k := fun xs S2 => Fm (.r nr :: xs) S2) R1 R21 p)) fun ws H2 ⟨hn, m2, F2, S2, xs, R3, R23, G2, r2, p2⟩ => ?_
            refine ⟨Hk, m2, F2, S2, .r nr :: xs, R3, .cons (r1.grow G2) r2, by rw [List.length_cons, hn], ?_⟩
            cases ef : Fm (.r nr :: xs) S2 with
            | ok y S3 => rw [ef] at p2; exact p2
            | exc c S3 => rw [ef] at p2; exact fun H' m' F' R G => p2 H' m' F' R G
            | bad => rw [ef] at p2; exact p2
          · exact False.elim p
        | _ => exact False.elim p
theorem de_meth0 {Fm : List Val → Sto → Out Val} {c : Nat} {pl : Sem Bool} (tk : L2N.Takes X W) (he : PE X o (denE B W fo)) (cl : Cls X.K (B.clA c)) (hm : Meth X.K (B.clA c) m f) (F : FnOk X.prog X.w X.K X.mg X.base (L2N.CX X.prog X.w) k f fd ps (spM B 1 Fm)) (hr : Room k X.A) (hb : Binds X.K fd ps [])
    (hno : m ∉ B.fN c)
    (ht : eval (.Call (.Attribute o m apos) [] [] pos) X.env = (do
      let ov ← eval o X.env
      standAt apos.atName
      let (f, first) ← holding [ov] (getMethod ov m pl)
      callWith pos f first (backTo pos (starEach [] X.env)) (backToKw pos (keywordEach [] X.env))) := by rfl) :
    PE X (.Call (.Attribute o m apos) [] [] pos) (denE B W (dMeth Fm c fo aNil)) :=
  PE_weak (pe_meth0S (E := WE W) he cl hm F hr hb (L2N.passAt tk) ht) fun σ H Q ⟨Hk, m0, F0, sl, S, R, R2, q⟩ => by
    refine den_mono (den_step (rel := relE B) (rel2 := relE B) (k := fun x S1 => match x with | .r n => (match S1[n]? with | some (.obj C' _) => if C' = c then (aNil sl S1).bind fun xs S2 => Fm (x :: xs) S2 else .bad | _ => .bad) | .d _ => .bad) R R2 q) fun v H1 ⟨m1, F1, S1, x, R1, R21, G, r1, p⟩ => ?_
    cases x with
    | d x => exact False.elim p
    | r nr =>
      dsimp only at p
      cases e1 : S1[nr]? with
      | none => rw [e1] at p; exact False.elim p
      | some cell =>
        rw [e1] at p
        cases cell with
        | obj c' fs =>
          dsimp only at p
          split at p
          · rename_i hc
            subst hc
            obtain ⟨a, dx, vs, rfl, h1, h2⟩ := recv_of R1 r1 e1 hno
            refine ⟨a, dx, vs, rfl, h1, h2, ?_⟩
            refine ⟨Hk, m1, F1, S1, [.r nr], R1, .cons r1 .nil, rfl, ?_⟩
            have p2 : post B W (relE B) Hk σ m1 F1 H1 (Fm [.r nr] S1) Q := p
            cases ef : Fm [.r nr] S1 with
            | ok y S3 => rw [ef] at p2; exact p2
            | exc c S3 => rw [ef] at p2; exact fun H' m' F' R G => p2 H' m' F' R G
            | bad => rw [ef] at p2; exact p2
          · exact False.elim p
        | _ => exact False.elim p
end

/-! ### attributes of a cell -/
def dFld (c i : Nat) (fo : DE) : DE := d1 fo fun x S => match x with
  | .r n => match S[n]? with
    | some (.obj c' fs) => if c' = c then (match fs[i]? with | some (some y) => .ok y S | _ => .bad) else .bad
    | _ => .bad
  | .d _ => .bad
theorem de_fld {o : Expr} {f : Str} {pos : Pos} {fo : DE} {c : Nat} (i : Nat) (he : PE X o (denE B W fo)) (cl : Cls X.K (B.clA c)) (na : NoAttr X.K (B.clA c) f) (hi : (B.fN c)[i]? = some f) (hb : attributeBase o f X.env (eval o X.env) = eval o X.env := by rfl) : PE X (.Attribute o f pos) (denE B W (dFld c i fo)) :=
  PE_weak (pe_fld he hb) fun σ H Q q => w_d1 (r := fun x H1 Q => ∃ a C dx fs v, x = .ref a ∧ H1 a = some (.ins C dx fs) ∧ Cls X.K C ∧ NoAttr X.K C f ∧ fs.lookup f = some v ∧ Q v H1) (fun Hk σ m F S H v x Q R r p => by
    cases r with
    | d r => exact False.elim p
    | r hn =>
      rename_i nr a
      dsimp only at p
      cases e1 : S[nr]? with
      | none => rw [e1] at p; exact False.elim p
      | some cell =>
        rw [e1] at p
        cases cell with
        | obj c' fs =>
          dsimp only at p
          split at p
          · rename_i hc
            subst hc
            obtain ⟨_, dx, vs, h1, h2, h3, h4, h5⟩ := R.cell _ _ _ hn e1
            cases e2 : fs[i]? with
            | none => rw [e2] at p; exact False.elim p
            | some oy =>
              rw [e2] at p
              cases oy with
              | none => exact False.elim p
              | some y =>
                have q := h5 i f (some y) hi e2
                cases e3 : vs.lookup f with
                | none => rw [e3] at q; exact q.elim
                | some v =>
                  rw [e3] at q
                  exact ⟨a, _, dx, vs, v, rfl, h1, cl, na, e3, p v H m F R (Grow.refl _ _ _) q⟩
          · exact False.elim p
        | _ => exact False.elim p) q
end
end Dn

set_option Elab.async false
set_option linter.all false
set_option maxRecDepth 100000
set_option maxHeartbeats 2000000
/-! Dn: objects: their making, their attributes as targets. -/
namespace Dn
open PySem L2 PyProof.Rows

theorem putF_old {f : Str} {v : V} : ∀ {fs : List (Str × V)} {y : V}, fs.lookup f = some y → (putF f v fs).length = fs.length
  | [], _, h => by cases h
  | (g, x) :: r, y, h => by
    show (if g = f then (g, v) :: r else (g, x) :: putF f v r).length = _
    by_cases e : g = f
    · rw [if_pos e]; rfl
    · rw [if_neg e]
      have e2 : (f == g) = false := beq_eq_false_iff_ne.mpr fun z => e z.symm
      rw [List.lookup, e2] at h
      rw [List.length_cons, List.length_cons, putF_old h]
theorem count_set : ∀ {fs : List (Option Val)} {i : Nat} {x : Val} {o : Option Val}, fs[i]? = some o → (fs.set i (some x)).countP Option.isNone + (if o.isNone then 1 else 0) = fs.countP Option.isNone
  | [], _, _, _, h => by simp at h
  | a :: r, 0, x, o, h => by
    simp at h; subst h
    simp [List.countP_cons]
  | a :: r, i + 1, x, o, h => by
    have := count_set (x := x) (show r[i]? = some o by simpa using h)
    rw [List.set_cons_succ, List.countP_cons, List.countP_cons]
    omega
section
variable {X : Cx} {B : Bs} {W : WX}
/-- the object's attribute i is set -/
theorem obj_put {Hk : Hp} {m : List Addr} {F H : Hp} {S : Sto} {n c i : Nat} {a : Addr} {fs : List (Option Val)} {f : Str} {v : V} {x : Val} (hN : (B.fN c).Nodup) (R : RH B Hk m F S H) (hn : m[n]? = some a) (e : S[n]? = some (.obj c fs)) (hi : (B.fN c)[i]? = some f) (r : RelX B m F v x) :
    ∃ dx vs, H a = some (.ins (B.clA c) dx vs) ∧ vs.length < 1000 ∧ RH B Hk m F (S.set n (.obj c (fs.set i (some x)))) (upd H a (.ins (B.clA c) dx (putF f v vs))) ∧ Grow m F H m F (upd H a (.ins (B.clA c) dx (putF f v vs))) := by
  obtain ⟨h0, dx, vs, h1, h2, h3, h4, h5⟩ := R.cell n a _ hn e
  refine ⟨dx, vs, h1, by omega, ?_⟩
  have hl : i < fs.length := by rw [h3]; exact (List.getElem?_eq_some_iff.mp hi).1
  have ho : fs[i]? = some fs[i] := List.getElem?_eq_getElem hl
  have hr := h5 i f _ hi ho
  have hc := count_set (x := x) ho
  refine R.write (c := .obj c fs) hn h0 ⟨h0, dx, _, upd_same, ?_, by rw [List.length_set]; exact h3, fun g hg => ?_, fun j g y hj hy => ?_⟩
  · cases q : fs[i] with
    | none =>
      rw [q] at hc
      have := length_putF f v vs
      simp at hc
      omega
    | some z =>
      rw [q] at hr hc
      cases q2 : vs.lookup f with
      | none => rw [q2] at hr; exact hr.elim
      | some w =>
        rw [putF_old q2]
        simp at hc
        omega
  · rw [lookup_putF, if_neg (fun e => hg (by rw [e]; exact List.mem_of_getElem? hi))]; exact h4 g hg
  · rw [lookup_putF]
    by_cases q : j = i
    · subst q
      rw [hi] at hj; cases hj
      rw [if_pos rfl]
      rw [List.getElem?_set_self hl] at hy
      cases hy
      exact r
    · rw [List.getElem?_set_ne (Ne.symm q)] at hy
      rw [if_neg (fun (z : g = f) => q (nodup_ix hN hj (by rw [z]; exact hi)))]
      exact h5 j g y hj hy
/-- o.f as a target, by values -/
def gFld (K : PySem.W.Frag) (to : TE) (f : Str) : TG := fun v σ H Q => to σ H fun x H1 => ∃ a C dx fs, x = .ref a ∧ H1 a = some (.ins C dx fs) ∧ Cls K C ∧ NoAttr K C f ∧ fs.length < 1000 ∧ Q σ (upd H1 a (.ins C dx (putF f v fs)))
theorem pg_fld {o : Expr} {to : TE} {f : Str} {pos : Pos} (ho : PE X o to) : PG X (.Attribute o f pos) (gFld X.K to f) := by
  refine ⟨fun pins s σ H v u Q I r h => ?_⟩
  rw [assign_Attribute]
  refine wpAny_bind (wpAny_holding (thn (ho.run pins s σ H _ I h) fun ov s1 ⟨x, H1, I1, rx, a, C, dx, fs, ex, ea, c, n, l, q⟩ => ?_))
  subst ex
  cases rx
  refine wpAny_bind (wpAny_standAt (wpAny_bind (wpAny_holding (setattr_ok I1 ea c n l r fun s2 I2 => ?_))))
  exact wpAny_release ⟨σ, _, I2, q⟩
def nFldK (c i : Nat) (v : Val) (x : Val) (sl : Sl) (S : Sto) : Option (Sl × Sto) := match x with
  | .r n => match S[n]? with
    | some (.obj c' fs) => if c' = c then some (sl, S.set n (.obj c (fs.set i (some v)))) else none
    | _ => none
  | .d _ => none
/-- o.f = .., o the name j -/
def nFld (c i j : Nat) : DG := fun v sl S => match sl[j]? with
  | some (some x) => nFldK c i v x sl S
  | _ => none
theorem dg_fld {o : Expr} {f : Str} {pos : Pos} (c i j : Nat) (ho : PE X o (denE B W (dVar j))) (cl : Cls X.K (B.clA c)) (na : NoAttr X.K (B.clA c) f) (hi : (B.fN c)[i]? = some f) (hN : (B.fN c).Nodup) : PG X (.Attribute o f pos) (denG B (nFld c i j)) :=
  PG_weak (pg_fld ho) fun v σ H Q ⟨Hk, m, F, sl, S, y, R, R2, r, q⟩ => by
    simp only [nFld] at q
    refine ⟨Hk, m, F, sl, S, R, R2, ?_⟩
    simp only [dVar]
    cases e0 : sl[j]? with
    | none => rw [e0] at q; exact False.elim q
    | some o0 =>
      rw [e0] at q
      cases o0 with
      | none => exact False.elim q
      | some x =>
        dsimp only at q ⊢
        intro v1 H1 m1 F1 R1 G r1
        cases x with
        | d _ => exact False.elim q
        | r n =>
          simp only [nFldK] at q
          cases e1 : S[n]? with
          | none => rw [e1] at q; exact False.elim q
          | some cell =>
            rw [e1] at q
            cases cell with
            | obj c' fs =>
              dsimp only at q
              split at q
              · rename_i hc
                subst hc
                cases r1 with
                | r hn =>
                  obtain ⟨dx, vs, h1, h2, R3, G3⟩ := obj_put hN R1 hn e1 hi (r.grow G)
                  exact ⟨_, _, dx, vs, rfl, h1, cl, na, h2, q _ _ _ _ R3 (R2.mono (G.trans G3)) (G.trans G3)⟩
              · exact False.elim q
            | _ => exact False.elim q

/-! ### making -/
theorem run_makeS {k : Nat} {f C : Addr} {fd : FuncData} {ps : List Str} {sp : Sp} {E : L2.St → XK} {pins : List (Addr × Obj)} {σ : L2.St} {H : Hp} {s : Shared} {Q : VK} {us : List Value} {vs : List V} (M : Mk X.K C f)
    (F : FnOk X.prog X.w X.K X.mg X.base (L2N.CX X.prog X.w) k f fd ps sp) (hr : Room (k + 1) X.A) (hb : Binds X.K fd ps []) (hx : PassesAt (L2N.CX X.prog X.w) X σ (E σ)) (I : Inv X pins σ H s) (r : Vals vs us)
    (h : ∀ x dx, H x = none → H dx = none → dx ≠ x → sp (.ref x :: vs) (upd (upd H dx (.own x)) x (.ins C dx [])) (fun v H2 => v = .non ∧ Q (.ref x) H2) (E σ)) :
    wpAny (model X.prog X.w) X.A (call (.ref C) us) (EP X pins σ Q) X.xe s := by
  have hq := h (s.heap.objs.size + 1) s.heap.objs.size (I.hok.fresh (Nat.le_succ _)) (I.hok.fresh (Nat.le_refl _)) (Nat.ne_of_lt (Nat.lt_succ_self _))
  have J := Inv.made (C := C) I
  have r2 : Vals (V.ref (s.heap.objs.size + 1) :: vs) (Value.ref (s.heap.objs.size + 1) :: us) := .cons rfl r
  have hl : (Value.ref (s.heap.objs.size + 1) :: us).length = ps.length := by rw [← r2.length]; exact F.len _ _ _ _ hq
  have bb := hb _ (Value.ref (s.heap.objs.size + 1) :: us) J.kIn (by rw [List.append_nil]; exact hl)
  rw [List.append_nil] at bb
  refine wpAny_call (make_map (f := f) I.kIn M.makes M.init (beq_iff_eq.mp M.fn) (codeAny_mono (F.run _ X.stack _ _ ⟨Value.ref (s.heap.objs.size + 1) :: us, []⟩ _ _ _ (E σ) (hr.make C us []) (J.env0.make C us []) bb r2 hq) fun rr s2 hq2 => ?_))
  cases rr with
  | ok fl =>
    cases fl with
    | ret u =>
      obtain ⟨v, H2, J2, rv, ev, q3⟩ := J.after hq2
      subst ev
      exact ⟨rv, ⟨V.ref (s.heap.objs.size + 1), H2, J2, rfl, q3⟩⟩
    | next => cases hq2
    | brk => cases hq2
    | cont => cases hq2
  | error e =>
    have t := hx pins _ _ e s2 J hq2
    exact t
section
variable {k n : Nat} {f C : Addr} {fd : FuncData} {ps : List Str} {x : Str} {p pos : Pos} {e : Expr} {es : List Expr} {fa : DA}
theorem pe_makeS {sp : Sp} {E : L2.St → XK} {t : TA} (M : Mk X.K C f) (F : FnOk X.prog X.w X.K X.mg X.base (L2N.CX X.prog X.w) k f fd ps sp) (hr : Room (k + 1) X.A) (hg : Gl X x) (hm : X.mg x = some (.ref C)) (hb : Binds X.K fd ps []) (hx : ∀ σ, PassesAt (L2N.CX X.prog X.w) X σ (E σ))
    (ha : PA X (e :: es) t) (hdb : (x == ("__debug__" : Str)) = false) (he : starEach (e :: es) X.env = (false, eval e X.env) :: starEach es X.env) (hpl : (backTo pos (starEach es X.env)).any (·.1) = false) :
    PE X (.Call (.Name x p) (e :: es) [] pos) (fun σ H Q => t σ H fun vs H1 => ∀ x dx, H1 x = none → H1 dx = none → dx ≠ x → sp (.ref x :: vs) (upd (upd H1 dx (.own x)) x (.ins C dx [])) (fun v H2 => v = .non ∧ Q (.ref x) H2) (E σ)) := by
  refine ⟨fun pins s σ H Q I h => wpAny_Call_Name_kw (ld_glob I hg hm ?_ hdb)⟩
  exact PySem.W.callWith_K (h₀ := X.base) I.ok.mod.kin M.kp (thn (ha.run pos pins s σ H _ I h) fun us s1 ⟨vs, H1, J, r, q⟩ => ⟨J.kIn, run_makeS M F hr hb (hx σ) J r q⟩) he hpl
def mkOut (n : Nat) : Out Val → Out Val
  | .ok (.d .non) S => .ok (.r n) S
  | .ok _ _ => .bad
  | .exc c S => .exc c S
  | .bad => .bad
/-- C(..): nf attributes -/
def newK (c nf : Nat) (Fm : List Val → Sto → Out Val) (xs : List Val) (S : Sto) : Out Val := mkOut S.length (Fm (.r S.length :: xs) (S ++ [Cell.obj c (List.replicate nf none)]))
def dNew (c nf : Nat) (Fm : List Val → Sto → Out Val) (fa : DA) : DE := dA fa (newK c nf Fm)
theorem de_new {Fm : List Val → Sto → Out Val} {c nf : Nat} (tk : L2N.Takes X W) (M : Mk X.K (B.clA c) f) (F : FnOk X.prog X.w X.K X.mg X.base (L2N.CX X.prog X.w) k f fd ps (spM B (n + 1) Fm)) (hr : Room (k + 1) X.A) (hg : Gl X x) (hm : X.mg x = some (.ref (B.clA c))) (hb : Binds X.K fd ps [])
    (ha : PA X (e :: es) (denA B W fa)) (hl : lenA fa n) (hnf : (B.fN c).length = nf) (hnf2 : nf ≤ 50 := by decide) (hdb : (x == ("__debug__" : Str)) = false := by decide) (he : starEach (e :: es) X.env = (false, eval e X.env) :: starEach es X.env := by rfl) (hpl : (backTo pos (starEach es X.env)).any (·.1) = false := by rfl) :
    PE X (.Call (.Name x p) (e :: es) [] pos) (denE B W (dNew c nf Fm fa)) :=
  PE_weak (pe_makeS M F hr hg hm hb (L2N.passAt tk) ha hdb he hpl) fun σ H Q ⟨Hk, m, F0, sl, S, R, R2, q⟩ => by
    refine den_mono (den_aLen hl (den_step (rel := relA B) (rel2 := relE B) (k := newK c nf Fm) R R2 q)) fun vs H1 ⟨hn, m1, F1, S1, xs, R1, R21, G, r1, p⟩ => ?_
    intro a dx ha hdx hne
    obtain ⟨R3, G3⟩ := R1.newO (o := .own a) hdx
    have ha' : upd H1 dx (.own a) a = none := by rw [upd_ne (Ne.symm hne)]; exact ha
    obtain ⟨R4, G4⟩ := R3.newC (o := .ins (B.clA c) dx []) (c := .obj c (List.replicate nf none)) ha' ⟨R3.none ha', dx, [], upd_same, by rw [List.countP_replicate]; simp; exact hnf2, by simp [hnf], fun _ _ => rfl, fun i g y _ hy => by
      rw [List.getElem?_replicate] at hy
      split at hy
      · cases hy; trivial
      · cases hy⟩
    have G34 := G3.trans G4
    unfold newK at p
    refine ⟨Hk, _, F1, _, .r S1.length :: xs, R4, .cons (.r (app_last R1.len)) (r1.grow G34), by rw [List.length_cons, hn], ?_⟩
    cases ef : Fm (.r S1.length :: xs) (S1 ++ [.obj c (List.replicate nf none)]) with
    | bad => rw [ef] at p; exact p
    | exc c2 S3 => rw [ef] at p; exact fun H' m' F' R G => p H' m' F' R (G34.trans G)
    | ok y S3 =>
      rw [ef] at p
      intro v H2 m2 F2 R5 G5 r5
      cases y with
      | r _ => exact False.elim p
      | d y =>
        cases y with
        | non =>
          cases r5 with
          | d r5 =>
            cases r5
            obtain ⟨more, hm⟩ := G5.mm
            refine ⟨rfl, p _ H2 m2 F2 R5 (G34.trans G5) (.r ?_)⟩
            rw [hm]; exact app_get (app_last R1.len)
        | _ => exact False.elim p
end
end
end Dn

set_option Elab.async false
set_option linter.all false
set_option maxRecDepth 100000
set_option maxHeartbeats 2000000
/-! Dn: built-in methods, subscripts as targets. -/
namespace Dn
open PySem L2 PyProof.Rows

def TyOk (X : Cx) (T : String) (x : V) (H : Hp) : Prop := ∀ (pins : List (Addr × Obj)) (σ : L2.St) (s : Shared) (v : Value), Inv X pins σ H s → RelV x v → s.TypeIs v T ∧ ∀ a, v = .ref a → ∃ ob, s.heap.get? a = some ob ∧ ob.dict = none
section
variable {X : Cx} {B : Bs} {W : WX} {o e : Expr} {es : List Expr} {to : TE} {t : TA} {name : Str} {apos cpos : Pos} {T id : String} {r : V → List V → Hp → VK → Prop}
theorem pe_bmG0 (pa : PlainAttrs T) (slot : Slot T name id) (hty : typeOf (.builtin id) = pure (.type "method_descriptor")) (hm : MtR X id r) (ho : PE X o to) (hbase : attributeBase o name X.env (eval o X.env) = eval o X.env) (hline : (apos.endLine == cpos.line) = true) :
    PE X (.Call (.Attribute o name apos) [] [] cpos) (fun σ H Q => to σ H fun x H1 => TyOk X T x H1 ∧ r x [] H1 Q) := by
  refine ⟨fun pins s σ H Q I h => wpAny_Call_method0_late hbase hline (thn (ho.run pins s σ H _ I h) fun v s1 ⟨x, H1, J, r1, ty, q1⟩ => ?_)⟩
  exact ⟨T, id, pa, slot, hty, (ty pins σ s1 v J r1).1, (ty pins σ s1 v J r1).2, Calls.callWith_builtin rfl (PySem.evalArgs_none (hm pins s1 σ H1 x [] v [] Q J r1 .nil q1))⟩
theorem pe_bmG (pa : PlainAttrs T) (slot : Slot T name id) (hty : typeOf (.builtin id) = pure (.type "method_descriptor")) (hm : MtR X id r) (ho : PE X o to) (ha : PA X (e :: es) t) (hbase : attributeBase o name X.env (eval o X.env) = eval o X.env)
    (hfew : ((backTo cpos (starEach (e :: es) X.env)).all (fun x => !x.1) && (backToKw cpos (keywordEach [] X.env)).all (fun x => x.1.isSome) && decide ((e :: es).length + ([] : List Keyword).length + (if ([] : List Keyword).isEmpty then 0 else 1) < 30)) = true)
    (hline : (apos.endLine == cpos.line) = true) (hs : starEach (e :: es) X.env = (false, eval e X.env) :: starEach es X.env) (hplain : (backTo cpos (starEach es X.env)).any (·.1) = false) :
    PE X (.Call (.Attribute o name apos) (e :: es) [] cpos) (fun σ H Q => to σ H fun x H1 => TyOk X T x H1 ∧ t σ H1 fun xs H2 => r x xs H2 Q) := by
  refine ⟨fun pins s σ H Q I h => wpAny_Call_method_late hbase hfew hline rfl (thn (ho.run pins s σ H _ I h) fun v s1 ⟨x, H1, J, r1, ty, q1⟩ => ⟨T, id, pa, slot, hty, (ty pins σ s1 v J r1).1, (ty pins σ s1 v J r1).2, ?_⟩)⟩
  have hA := ha.run cpos pins s1 σ H1 _ J q1
  rw [hs] at hA ⊢
  exact Calls.callWith_builtin (by show (false || (backTo cpos (starEach es X.env)).any (·.1)) = false; rw [hplain] <;> rfl) (Calls.evalArgs_plain (thn hA fun us s2 ⟨vs, H2, J2, r2, q2⟩ => hm pins s2 σ H2 x vs v us Q J2 r1 r2 q2))

/-! ### what a value is -/
def look1 (S : Sto) : Val → Cell
  | .d x => .frz x
  | .r n => match S[n]? with
    | some c => c
    | none => .frz .non
def isLst (S : Sto) (x : Val) : Bool := match look1 S x with
  | .lst _ => true
  | .frz (.lst _) => true
  | _ => false
def isDct (S : Sto) (x : Val) : Bool := match look1 S x with
  | .dct _ => true
  | .dck _ => true
  | .frz (.dct _) => true
  | .frz (.dck _) => true
  | _ => false
def isStr (S : Sto) (x : Val) : Bool := match x with
  | .d (.str _) => true
  | _ => false
theorem look1_rel {Hk : Hp} {m : List Addr} {F H : Hp} {S : Sto} {v : V} {x : Val} (R : RH B Hk m F S H) (r : RelX B m F v x) : (∃ n a, x = .r n ∧ v = .ref a ∧ m[n]? = some a ∧ CellR B m F H a (look1 S x)) ∨ ∃ d, x = .d d ∧ Rel B F v d := by
  cases r with
  | d r => exact .inr ⟨_, rfl, r⟩
  | r hn =>
    rename_i n a
    refine .inl ⟨n, a, rfl, rfl, hn, ?_⟩
    have hl : n < S.length := by rw [← R.len]; exact (List.getElem?_eq_some_iff.mp hn).1
    have e := List.getElem?_eq_getElem hl
    simp only [look1, e]
    exact R.cell n a _ hn e
theorem lst_rel {Hk : Hp} {m : List Addr} {F H : Hp} {S : Sto} {v : V} {x : Val} (R : RH B Hk m F S H) (r : RelX B m F v x) (h : isLst S x = true) : ∃ a xs, v = .ref a ∧ Rd H a (.lst xs) := by
  rcases look1_rel R r with ⟨n, a, rfl, rfl, hn, c⟩ | ⟨d, rfl, r2⟩
  · unfold isLst at h
    generalize look1 S (.r n) = cell at h c
    cases cell with
    | lst xs => obtain ⟨_, vs, e, _⟩ := c; exact ⟨a, vs, rfl, .inl e⟩
    | frz d =>
      cases d with
      | lst xs =>
        have c : Rel B F (.ref a) (.lst xs) := c
        cases c with
        | lst q _ => exact ⟨_, _, rfl, Rd.same R.froz q⟩
      | _ => cases h
    | _ => cases h
  · cases d with
    | lst xs => cases r2 with
      | lst q _ => exact ⟨_, _, rfl, Rd.same R.froz q⟩
    | _ => cases h
theorem ty_lst {Hk : Hp} {m : List Addr} {F H : Hp} {S : Sto} {v : V} {x : Val} (R : RH B Hk m F S H) (r : RelX B m F v x) (h : isLst S x = true) : TyOk X "list" v H := by
  obtain ⟨a, xs, rfl, q⟩ := lst_rel R r h
  exact fun pins σ s u I ru => tyV_is I ru (.inl ⟨rfl, xs, .inl q⟩)
theorem ty_str {Hk : Hp} {m : List Addr} {F H : Hp} {S : Sto} {v : V} {x : Val} (R : RH B Hk m F S H) (r : RelX B m F v x) (h : isStr S x = true) : TyOk X "str" v H := by
  cases x with
  | r n => cases h
  | d d =>
    cases d with
    | str s => cases r with
      | d r => cases r with
        | str s => exact fun pins σ s u I ru => tyV_is I ru (show "str" = "str" from rfl)
    | _ => cases h
theorem ty_dK {H : Hp} {a : Addr} {vs : List (Key × V)} (h : H a = some (.dK vs)) : TyOk X "dict" (.ref a) H := fun pins σ s u I ru => tyV_is I ru (.inr (.inr (.inl ⟨rfl, .inl ⟨vs, h⟩⟩)))
theorem ty_dN {H : Hp} {a : Addr} {ob : Obj} {es : List Ent} (h : H a = some (dN B.P B.w a ob es)) : TyOk X "dict" (.ref a) H := fun pins σ s u I ru => by
  cases ru
  obtain ⟨⟨h1, h2, h3, es', ep, h4, _⟩, _⟩ := I.hok a _ h
  exact ⟨⟨ob, h1, h4.1⟩, fun b e => by cases e; exact ⟨ob, h1, h4.2.1⟩⟩
theorem ty_dct {Hk : Hp} {m : List Addr} {F H : Hp} {S : Sto} {v : V} {x : Val} (R : RH B Hk m F S H) (r : RelX B m F v x) (h : isDct S x = true) : TyOk X "dict" v H := by
  rcases look1_rel R r with ⟨n, a, rfl, rfl, hn, c⟩ | ⟨d, rfl, r2⟩
  · unfold isDct at h
    generalize look1 S (.r n) = cell at h c
    cases cell with
    | dct xs => obtain ⟨_, ob, es, e, _⟩ := c; exact ty_dN e
    | dck xs => obtain ⟨_, vs, e, _⟩ := c; exact ty_dK e
    | frz d =>
      have c : Rel B F (.ref a) d := c
      cases c with
      | dct q _ => exact ty_dN (R.froz _ _ q)
      | dck q _ => exact ty_dK (R.froz _ _ q)
      | _ => cases h
    | _ => cases h
  · cases r2 with
    | dct q _ => exact ty_dN (R.froz _ _ q)
    | dck q _ => exact ty_dK (R.froz _ _ q)
    | _ => cases h

/-! ### methods -/
def PrimM (B : Bs) (W : WX) (r : V → List V → Hp → VK → Prop) (k : Val → List Val → Sto → Out Val) : Prop := ∀ (Hk : Hp) (σ : L2.St) (m : List Addr) (F : Hp) (S : Sto) (H : Hp) (v : V) (x : Val) (vs : List V) (xs : List Val) (Q : VK),
  RH B Hk m F S H → RelX B m F v x → RelXs B m F vs xs → post B W (relE B) Hk σ m F H (k x xs S) Q → r v vs H Q
def TyP (B : Bs) (X : Cx) (T : String) (p : Sto → Val → Bool) : Prop := ∀ (Hk : Hp) (m : List Addr) (F H : Hp) (S : Sto) (v : V) (x : Val), RH B Hk m F S H → RelX B m F v x → p S x = true → TyOk X T v H
theorem tp_lst : TyP B X "list" isLst := fun _ _ _ _ _ _ _ R r h => ty_lst R r h
theorem tp_str : TyP B X "str" isStr := fun _ _ _ _ _ _ _ R r h => ty_str R r h
theorem tp_dct : TyP B X "dict" isDct := fun _ _ _ _ _ _ _ R r h => ty_dct R r h
def dMt (p : Sto → Val → Bool) (k : Val → List Val → Sto → Out Val) (fo : DE) (fa : DA) : DE := fun sl S => (fo sl S).bind fun x S1 => if p S1 x = true then (fa sl S1).bind fun xs S2 => k x xs S2 else .bad
theorem de_mt {p : Sto → Val → Bool} {k : Val → List Val → Sto → Out Val} {fo : DE} {fa : DA} (pa : PlainAttrs T) (slot : Slot T name id) (hty : typeOf (.builtin id) = pure (.type "method_descriptor")) (hm : MtR X id r) (tp : TyP B X T p) (hp : PrimM B W r k) (ho : PE X o (denE B W fo)) (ha : PA X (e :: es) (denA B W fa))
    (hbase : attributeBase o name X.env (eval o X.env) = eval o X.env := by rfl)
    (hfew : ((backTo cpos (starEach (e :: es) X.env)).all (fun x => !x.1) && (backToKw cpos (keywordEach [] X.env)).all (fun x => x.1.isSome) && decide ((e :: es).length + ([] : List Keyword).length + (if ([] : List Keyword).isEmpty then 0 else 1) < 30)) = true := by rfl)
    (hline : (apos.endLine == cpos.line) = true := by rfl) (hs : starEach (e :: es) X.env = (false, eval e X.env) :: starEach es X.env := by rfl) (hplain : (backTo cpos (starEach es X.env)).any (·.1) = false := by rfl) :
    PE X (.Call (.Attribute o name apos) (e :: es) [] cpos) (denE B W (dMt p k fo fa)) :=
  PE_weak (pe_bmG pa slot hty hm ho ha hbase hfew hline hs hplain) fun σ H Q ⟨Hk, m, F, sl, S, R, R2, q⟩ => by
    refine den_mono (den_step (rel := relE B) (rel2 := relE B) (k := fun x S1 => if p S1 x = true then (fa sl S1).bind fun xs S2 => k x xs S2 else .bad) R R2 q) fun v H1 ⟨m1, F1, S1, x, R1, R21, G, r1, p1⟩ => ?_
    split at p1
    · rename_i hc
      refine ⟨tp Hk m1 F1 H1 S1 v x R1 r1 hc, ?_⟩
      exact den_mono (den_step (rel := relA B) (rel2 := relE B) (k := fun xs S2 => k x xs S2) R1 R21 p1) fun vs H2 ⟨m2, F2, S2, xs, R3, R23, G2, r2, p2⟩ => hp Hk σ m2 F2 S2 H2 v x vs xs Q R3 (r1.grow G2) r2 p2
    · exact False.elim p1
theorem de_mt0 {p : Sto → Val → Bool} {k : Val → List Val → Sto → Out Val} {fo : DE} (pa : PlainAttrs T) (slot : Slot T name id) (hty : typeOf (.builtin id) = pure (.type "method_descriptor")) (hm : MtR X id r) (tp : TyP B X T p) (hp : PrimM B W r k) (ho : PE X o (denE B W fo))
    (hbase : attributeBase o name X.env (eval o X.env) = eval o X.env := by rfl) (hline : (apos.endLine == cpos.line) = true := by rfl) :
    PE X (.Call (.Attribute o name apos) [] [] cpos) (denE B W (dMt p k fo aNil)) :=
  PE_weak (pe_bmG0 pa slot hty hm ho hbase hline) fun σ H Q ⟨Hk, m, F, sl, S, R, R2, q⟩ => by
    refine den_mono (den_step (rel := relE B) (rel2 := relE B) (k := fun x S1 => if p S1 x = true then (aNil sl S1).bind fun xs S2 => k x xs S2 else .bad) R R2 q) fun v H1 ⟨m1, F1, S1, x, R1, R21, G, r1, p1⟩ => ?_
    split at p1
    · rename_i hc
      exact ⟨tp Hk m1 F1 H1 S1 v x R1 r1 hc, hp Hk σ m1 F1 S1 H1 v x [] [] Q R1 r1 .nil p1⟩
    · exact False.elim p1
end
end Dn

set_option Elab.async false
set_option linter.all false
set_option maxRecDepth 100000
set_option maxHeartbeats 2000000
/-! Dn: list, text and dict methods; o[i] = v. -/
namespace Dn
open PySem L2 PyProof.Rows

section
variable {X : Cx} {B : Bs} {W : WX}
/-! ### lists -/
def kApp (x : Val) (xs : List Val) (S : Sto) : Out Val := match x, xs with
  | .r n, [y] => match S[n]? with
    | some (.lst ys) => if ys.length < 16777216 then .ok (.d .non) (S.set n (.lst (ys ++ [y]))) else .bad
    | _ => .bad
  | _, _ => .bad
theorem p_app : PrimM B W rAppend kApp := by
  intro Hk σ m F S H v x vs xs Q R r rs p
  unfold kApp at p
  cases r with
  | d _ => exact False.elim p
  | r hn =>
    rename_i n a
    cases rs with
    | nil => exact False.elim p
    | cons r1 rs =>
      cases rs with
      | cons _ _ => exact False.elim p
      | nil =>
        dsimp only at p
        split at p
        · rename_i ys e
          obtain ⟨h0, zs, h1, h2⟩ := R.cell n a _ hn e
          split at p
          · rename_i hl
            refine ⟨a, zs, _, rfl, rfl, h1, by rw [h2.len, szl]; exact hl, ?_⟩
            obtain ⟨R', G⟩ := R.write (c := .lst ys) (c' := .lst (ys ++ [_])) (o := .lst (zs ++ [_])) hn h0 ⟨h0, _, upd_same, h2.append (.cons r1 .nil)⟩
            exact p _ _ m F R' G (.d .non)
          · exact False.elim p
        · exact False.elim p
def rExtR : V → List V → Hp → VK → Prop := fun x vs H Q => ∃ l b xs zs, x = .ref l ∧ vs = [.ref b] ∧ H l = some (.lst xs) ∧ Rd H b (.lst zs) ∧ xs.length + zs.length ≤ sizeLine ∧ Q .non (upd H l (.lst (xs ++ zs)))
theorem mt_extR : MtR X "list.extend" rExtR := by
  intro pins s σ H x vs v us Q I rx rv h
  obtain ⟨l, b, xs, zs, rfl, rfl, hH, hB, hz, q⟩ := h
  cases rx
  obtain ⟨u, rfl, ru⟩ := rv.one
  cases ru
  obtain ⟨z, its, n, r, hl, e⟩ := I.lstM hH
  obtain ⟨z2, its2, n2, r2, e2⟩ := hB.ok I.hok
  have hl2 := r2.length
  have hsz : its.toArray.size + its2.toArray.size ≤ sizeLine := by rw [List.size_toArray, List.size_toArray]; omega
  have hlong : ¬ (!its.toArray.isEmpty && Builtin.List.listTooLong (its.toArray.size + its2.toArray.size)) = true := by rw [notLongL hsz, Bool.and_false]; simp
  refine call_meets F.slot_list_extend ⟨_, e, rfl⟩ F.entry_list_extend (F.args_list_extend_2 _ _) (AutoSeq1.list_extend_list_list_0 l its.toArray n b its2.toArray n2 hlong (by rw [List.size_toArray]; omega) (by omega)) ⟨e, e2, ?_⟩
  refine ⟨.non, _, I.lset (its' := its ++ its2) hH e (by simp) (r.append r2) ?_, rfl, q⟩
  rw [List.length_append]
  omega
def kExt (x : Val) (xs : List Val) (S : Sto) : Out Val := match x, xs with
  | .r n, [y] => match S[n]?, lstItems S y with
    | some (.lst ys), some zs => if ys.length + zs.length ≤ 16777216 then .ok (.d .non) (S.set n (.lst (ys ++ zs))) else .bad
    | _, _ => .bad
  | _, _ => .bad
theorem lst_items {Hk : Hp} {m : List Addr} {F H : Hp} {S : Sto} {v : V} {x : Val} {xs : List Val} (R : RH B Hk m F S H) (r : RelX B m F v x) (e : lstItems S x = some xs) : ∃ a vs, v = .ref a ∧ Rd H a (.lst vs) ∧ RelXs B m F vs xs := by
  cases r with
  | d r =>
    cases r with
    | lst q r => simp only [lstItems, Option.some.injEq] at e; subst e; exact ⟨_, _, rfl, Rd.same R.froz q, r.xs⟩
    | _ => cases e
  | r hn =>
    rename_i n a
    simp only [lstItems] at e
    split at e
    · rename_i ys hs
      cases e
      obtain ⟨_, vs, ha, r⟩ := R.cell n a _ hn hs
      exact ⟨a, vs, rfl, .inl ha, r⟩
    · rename_i ds hs
      cases e
      have r : Rel B F (.ref a) (.lst ds) := R.cell n a _ hn hs
      cases r with
      | lst q r => exact ⟨_, _, rfl, Rd.same R.froz q, r.xs⟩
    · cases e
theorem p_ext : PrimM B W rExtR kExt := by
  intro Hk σ m F S H v x vs xs Q R r rs p
  unfold kExt at p
  cases r with
  | d _ => exact False.elim p
  | r hn =>
    rename_i n a
    cases rs with
    | nil => exact False.elim p
    | cons r1 rs =>
      cases rs with
      | cons _ _ => exact False.elim p
      | nil =>
        dsimp only at p
        split at p
        · rename_i ys zs e e2
          obtain ⟨h0, us, h1, h2⟩ := R.cell n a _ hn e
          obtain ⟨b, ws, rfl, h3, h4⟩ := lst_items R r1 e2
          split at p
          · rename_i hl
            refine ⟨a, b, us, ws, rfl, rfl, h1, h3, by rw [h2.len, h4.len, szl]; exact hl, ?_⟩
            obtain ⟨R', G⟩ := R.write (c := .lst ys) (c' := .lst (ys ++ zs)) (o := .lst (us ++ ws)) hn h0 ⟨h0, _, upd_same, h2.append h4⟩
            exact p _ _ m F R' G (.d .non)
          · exact False.elim p
        · exact False.elim p
def kPop (x : Val) (xs : List Val) (S : Sto) : Out Val := match x, xs with
  | .r n, [] => match S[n]? with
    | some (.lst ys) => match ys[ys.length - 1]? with
      | some y => .ok y (S.set n (.lst ys.dropLast))
      | none => .bad
    | _ => .bad
  | _, _ => .bad
theorem RelXs.dropLast {m : List Addr} {F : Hp} : ∀ {vs : List V} {xs : List Val}, RelXs B m F vs xs → RelXs B m F vs.dropLast xs.dropLast
  | _, _, .nil => .nil
  | _, _, .cons h .nil => .nil
  | _, _, .cons h (.cons h2 r) => .cons h (RelXs.dropLast (.cons h2 r))
theorem p_pop : PrimM B W rPop kPop := by
  intro Hk σ m F S H v x vs xs Q R r rs p
  unfold kPop at p
  cases r with
  | d _ => exact False.elim p
  | r hn =>
    rename_i n a
    cases rs with
    | cons _ _ => exact False.elim p
    | nil =>
      dsimp only at p
      split at p
      · rename_i ys e
        obtain ⟨h0, us, h1, h2⟩ := R.cell n a _ hn e
        split at p
        · rename_i y e2
          obtain ⟨w, e3, rw3⟩ := h2.get e2
          refine ⟨a, us, w, rfl, rfl, h1, by rw [h2.len]; exact e3, ?_⟩
          obtain ⟨R', G⟩ := R.write (c := .lst ys) (c' := .lst ys.dropLast) (o := .lst us.dropLast) hn h0 ⟨h0, _, upd_same, h2.dropLast⟩
          exact p _ _ m F R' G rw3
        · exact False.elim p
      · exact False.elim p

/-! ### texts -/
def joinC (s : List Nat) (l : List (List Nat)) : List Nat := TL.joinL s l
def strsOf : List D → Option (List (List Nat))
  | [] => some []
  | .str s :: r => match strsOf r with
    | some l => some (s :: l)
    | none => none
  | _ => none
def seqD : D → Option (List D)
  | .lst xs => some xs
  | .tup xs => some xs
  | _ => none
def sumN : List Nat → Nat
  | [] => 0
  | x :: r => x + sumN r
def joinD (a b : D) : Option D := match a, (seqD b).bind strsOf with
  | .str s, some l => if sumN (l.map List.length) + l.length * s.length ≤ 16777216 then some (.str (joinC s l)) else none
  | _, _ => none
def rdM (o : D → List D → Option D) (x : Val) (xs : List Val) (S : Sto) : Out Val := match asD S x, xs.mapM (asD S) with
  | some a, some bs => Out.of ((o a bs).map .d) S
  | _, _ => .bad
def rdM1 (o : D → D → Option D) (x : Val) (xs : List Val) (S : Sto) : Out Val := match xs with
  | [y] => rd2 o x y S
  | _ => .bad
def rdM0 (o : D → Option D) (x : Val) (xs : List Val) (S : Sto) : Out Val := match xs with
  | [] => rd1 o x S
  | _ => .bad
theorem pm1 {r : V → List V → Hp → VK → Prop} {o : D → D → Option D} (h : ∀ (F H : Hp) (v w : V) (a b z : D) (Q : VK), Same F H → Look B F H v a → Look B F H w b → o a b = some z → Res B F H z Q → r v [w] H Q) : PrimM B W r (rdM1 o) := by
  intro Hk σ m F S H v x vs xs Q R rx rs p
  cases rs with
  | nil => exact False.elim p
  | cons r1 rs =>
    cases rs with
    | cons _ _ => exact False.elim p
    | nil => exact prim2_rd (W := W) (r := fun x y H Q => r x [y] H Q) h Hk σ m F S H v _ x _ Q R rx r1 p
theorem pm0 {r : V → List V → Hp → VK → Prop} {o : D → Option D} (h : ∀ (F H : Hp) (v : V) (a z : D) (Q : VK), Same F H → Look B F H v a → o a = some z → Res B F H z Q → r v [] H Q) : PrimM B W r (rdM0 o) := by
  intro Hk σ m F S H v x vs xs Q R rx rs p
  cases rs with
  | cons _ _ => exact False.elim p
  | nil => exact prim1_rd (W := W) (r := fun x H Q => r x [] H Q) h Hk σ m F S H v x Q R rx p
theorem strs_rel {F : Hp} : ∀ {vs : List V} {ds : List D} {l : List (List Nat)}, Rels B F vs ds → strsOf ds = some l → vs = (l.map fun s => (⟨s.toArray⟩ : Str)).map V.str
  | _, _, _, .nil, e => by simp [strsOf] at e; subst e; rfl
  | _, d :: _, _, .cons r t, e => by
    cases d with
    | str s =>
      rw [strsOf] at e
      cases q : strsOf _ with
      | none => rw [q] at e; cases e
      | some l =>
        rw [q] at e
        cases e
        cases r
        rw [List.map_cons, List.map_cons, strs_rel t q]
    | _ => cases e
theorem join_tl (s : List Nat) : ∀ l : List (List Nat), Txt.join ⟨s.toArray⟩ (l.map fun x => (⟨x.toArray⟩ : Str)) = ⟨(joinC s l).toArray⟩ := fun l => by
  rw [TL.join_eq]
  refine TL.ext_tl ?_
  rw [TL.tl_join, List.map_map]
  show TL.joinL s (l.map id) = _
  rw [List.map_id]
  rfl
theorem sum_len (l : List (List Nat)) : ((l.map fun s => (⟨s.toArray⟩ : Str)).map (·.length)).sum = sumN (l.map List.length) := by
  induction l with
  | nil => rfl
  | cons x l ih => rw [List.map_cons, List.map_cons, List.sum_cons, ih, List.map_cons, sumN, str_len]
theorem p_join (hB : BX B X) : PrimM B W (fun x xs H Q => ∃ a p, ∃ ys : List Str, x = .str a ∧ xs = [.ref p] ∧ (SqL X.K H p (ys.map V.str) ∨ SqT X.K H p (ys.map V.str)) ∧ (ys.map (·.length)).sum + ys.length * a.length ≤ 16777216 ∧ Q (.str (Txt.join a ys)) H) (rdM1 joinD) := pm1 fun F H v w a b z Q f l1 l2 e R => by
  cases l1 with
  | str s =>
    simp only [joinD] at e
    cases l2 with
    | lst q r =>
      rename_i a xs ds
      simp only [seqD, Option.bind_some] at e
      cases h : strsOf ds with
      | none => rw [h] at e; cases e
      | some l =>
        rw [h] at e
        dsimp only at e
        split at e
        · rename_i hz
          cases e
          refine ⟨_, a, l.map fun s => (⟨s.toArray⟩ : Str), rfl, rfl, .inl (.inl ?_), ?_, ?_⟩
          · rw [← strs_rel r h]; exact q
          · rw [sum_len, List.length_map, str_len]; exact hz
          · rw [join_tl]; exact R.old _ (.str _)
        · cases e
    | tup q r =>
      rename_i a xs ds
      simp only [seqD, Option.bind_some] at e
      cases h : strsOf ds with
      | none => rw [h] at e; cases e
      | some l =>
        rw [h] at e
        dsimp only at e
        split at e
        · rename_i hz
          cases e
          refine ⟨_, a, l.map fun s => (⟨s.toArray⟩ : Str), rfl, rfl, .inr ?_, ?_, ?_⟩
          · rw [← strs_rel r h]; exact hB.K ▸ SqT.same f q
          · rw [sum_len, List.length_map, str_len]; exact hz
          · rw [join_tl]; exact R.old _ (.str _)
        · cases e
    | _ => cases e
  | _ => cases e
/-- upper of a sign of the board -/
def upC (c : Nat) : Option Nat := if c = 119 then some 87 else if c = 98 then some 66 else if c = 87 ∨ c = 66 ∨ c = 46 ∨ c = 32 then some c else none
def upD : D → Option D
  | .str [c] => (upC c).map fun c => .str [c]
  | _ => none
theorem up_tl {c d : Nat} (h : upC c = some d) : Txt.upper ⟨[c].toArray⟩ = ⟨[d].toArray⟩ := by
  unfold upC at h
  split at h
  · cases h; subst c; decide +kernel
  · split at h
    · cases h; subst c; decide +kernel
    · split at h
      · rename_i hh
        cases h
        rcases hh with rfl | rfl | rfl | rfl <;> decide +kernel
      · cases h
theorem p_upper : PrimM B W (fun x xs H Q => ∃ a, x = .str a ∧ xs = [] ∧ a.length ≤ 5592405 ∧ Q (.str (Txt.upper a)) H) (rdM0 upD) := pm0 fun F H v a z Q f l1 e R => by
  cases l1 with
  | str s =>
    cases s with
    | nil => cases e
    | cons c t =>
      cases t with
      | cons _ _ => cases e
      | nil =>
        simp only [upD, Option.map_eq_some_iff] at e
        obtain ⟨d, e, rfl⟩ := e
        exact ⟨_, rfl, rfl, by rw [str_len]; show 1 ≤ 5592405; decide, by rw [up_tl e]; exact R.old _ (.str _)⟩
  | _ => cases e
end
end Dn

set_option Elab.async false
set_option linter.all false
set_option maxRecDepth 100000
set_option maxHeartbeats 2000000
/-! Dn: dicts as cells. -/
namespace Dn
open PySem L2 PyProof.Rows

section
variable {X : Cx} {B : Bs} {W : WX}
theorem dN_nct {P : Program} {w : World} {a : Addr} {o : Obj} {es : List Ent} : NCT (dN P w a o es) := by
  refine ⟨fun _ h => (by cases h), fun c q h => ?_⟩
  have e : (fun h : Heap => ∃ (oc : Obj) (vs : Array Value) (t : Tok), h.get? c = some oc ∧ oc.data = .fields vs ∧ vs[1]? = some (.str q t)) = _ := (HO.ext.inj h).symm
  let ob : Obj := { cls := .none, data := .fields #[.none, .str q 0] }
  let hp : Heap := { objs := Array.replicate (c + 1) ob }
  have g0 : ∀ b, hp.get? b = if b < c + 1 then some ob else none := fun b => by
    show (match (Array.replicate (c + 1) ob)[b]? with | some ⟨_, _, .freed, _⟩ => none | o => o) = _
    rw [Array.getElem?_replicate]
    by_cases hb : b < c + 1
    · rw [if_pos hb]
    · rw [if_neg hb]
  have g : ∀ b o2, hp.get? b = some o2 → o2 = ob := fun b o2 h2 => by
    rw [g0] at h2
    split at h2
    · cases h2; rfl
    · cases h2
  have h1 : hp.get? c = some ob := by rw [g0, if_pos (Nat.lt_succ_self c)]
  have h3 := congrFun e hp
  have h4 : (∃ (oc : Obj) (vs : Array Value) (t : Tok), hp.get? c = some oc ∧ oc.data = .fields vs ∧ vs[1]? = some (.str q t)) := ⟨ob, _, 0, h1, rfl, rfl⟩
  rw [show (∃ (oc : Obj) (vs : Array Value) (t : Tok), hp.get? c = some oc ∧ oc.data = .fields vs ∧ vs[1]? = some (.str q t)) = _ from h3] at h4
  obtain ⟨k1, _, _, es', ep, _, k2, _⟩ := h4
  rw [g a o k1] at k2
  cases k2
theorem EntXs.len {m : List Addr} {F : Hp} : ∀ {es : List Ent} {kvs : List (NestedKey × Val)}, EntXs B m F es kvs → es.length = kvs.length
  | _, _, .nil => rfl
  | _, _, .cons _ _ _ _ t => by rw [List.length_cons, List.length_cons, EntXs.len t]
theorem KvXs.len {m : List Addr} {F : Hp} : ∀ {es : List (Key × V)} {kvs : List (Key × Val)}, KvXs B m F es kvs → es.length = kvs.length
  | _, _, .nil => rfl
  | _, _, .cons _ t => by rw [List.length_cons, List.length_cons, KvXs.len t]
theorem Ents.len {F : Hp} : ∀ {es : List Ent} {kvs : List (NestedKey × D)}, Ents B F es kvs → es.length = kvs.length
  | _, _, .nil => rfl
  | _, _, .cons _ _ _ _ t => by rw [List.length_cons, List.length_cons, Ents.len t]
theorem Kvs.len {F : Hp} : ∀ {es : List (Key × V)} {kvs : List (Key × D)}, Kvs B F es kvs → es.length = kvs.length
  | _, _, .nil => rfl
  | _, _, .cons _ t => by rw [List.length_cons, List.length_cons, Kvs.len t]
theorem EntXs.get {m : List Addr} {F : Hp} {k : NestedKey} : ∀ {es : List Ent} {kvs : List (NestedKey × Val)}, EntXs B m F es kvs → (∀ d, getT kvs k = some d → ∃ q u v, atKey es k = some (q, u) ∧ RelV v u ∧ RelX B m F v d) ∧ (getT kvs k = none → atKey es k = none)
  | _, _, .nil => ⟨fun _ e => by simp [getT] at e, fun _ => rfl⟩
  | _, _, .cons (k := k') (q := q') (u := u') (v := v') (x := d') h1 h2 h3 h4 t => by
    obtain ⟨i1, i2⟩ := EntXs.get (k := k) t
    by_cases e : k' = k
    · subst e
      refine ⟨fun d h => ?_, fun h => ?_⟩
      · simp [getT] at h
        subst h
        exact ⟨q', u', v', by simp [atKey], h3, h4⟩
      · simp [getT] at h
    · have g : ∀ l : List (NestedKey × Val), getT ((k', d') :: l) k = getT l k := fun l => by simp [getT, e]
      have g2 : ∀ (z : Addr × Value) (l : List Ent), atKey ((k', z) :: l) k = atKey l k := fun z l => by simp [atKey, e]
      rw [g]
      refine ⟨fun d h => ?_, fun h => ?_⟩
      · obtain ⟨q, u, v, a, b⟩ := i1 d h
        exact ⟨q, u, v, by rw [g2]; exact a, b⟩
      · rw [g2]; exact i2 h
theorem any_get {α : Type} (k : NestedKey) (kvs : List (NestedKey × α)) : (kvs.any fun kv => decide (kv.1 = k)) = (getT kvs k).isSome := by
  unfold getT
  induction kvs with
  | nil => rfl
  | cons x r ih =>
    by_cases e : x.1 = k
    · simp [e]
    · simpa [e] using ih
theorem EntXs.mem {m : List Addr} {F : Hp} {k : NestedKey} {es : List Ent} {kvs : List (NestedKey × Val)} (h : EntXs B m F es kvs) : (atKey es k).isSome = (kvs.any fun kv => decide (kv.1 = k)) := by
  obtain ⟨h1, h2⟩ := h.get (k := k)
  rw [any_get]
  cases e : getT kvs k with
  | none => rw [h2 e]; rfl
  | some d => obtain ⟨q, u, v, a, _⟩ := h1 d e; rw [a]; rfl
theorem EntXs.map {m : List Addr} {F : Hp} {k : NestedKey} {u : Value} {v : V} {x : Val} (ru : RelV v u) (rx : RelX B m F v x) : ∀ {es : List Ent} {kvs : List (NestedKey × Val)}, EntXs B m F es kvs → EntXs B m F (es.map (putAt k u)) (kvs.map fun kv => if kv.1 = k then (kv.1, x) else kv)
  | _, _, .nil => .nil
  | _, _, .cons (k := k') h1 h2 h3 h4 t => by
    have i := EntXs.map (k := k) ru rx t
    by_cases e : k' = k
    · rw [List.map_cons, List.map_cons, putAt, if_pos e, if_pos e]
      exact .cons h1 h2 ru rx i
    · rw [List.map_cons, List.map_cons, putAt, if_neg e, if_neg e]
      exact .cons h1 h2 h3 h4 i
theorem EntXs.append {m : List Addr} {F : Hp} : ∀ {es es2 : List Ent} {kvs kvs2 : List (NestedKey × Val)}, EntXs B m F es kvs → EntXs B m F es2 kvs2 → EntXs B m F (es ++ es2) (kvs ++ kvs2)
  | _, _, _, _, .nil, s => s
  | _, _, _, _, .cons h1 h2 h3 h4 t, s => .cons h1 h2 h3 h4 (EntXs.append t s)
theorem EntXs.put {m : List Addr} {F : Hp} {k : NestedKey} {q : Addr} {u : Value} {v : V} {x : Val} {es : List Ent} {kvs : List (NestedKey × Val)} (h : EntXs B m F es kvs) (rk : Rel B F (.ref q) (ofNK k)) (hd : k.depth ≤ 8) (ru : RelV v u) (rx : RelX B m F v x) :
    EntXs B m F (storedH es k q u) (setT kvs k x) := by
  unfold storedH setT
  rw [h.mem]
  split
  · exact h.map ru rx
  · exact h.append (.cons rk hd ru rx .nil)
theorem put_len {α : Type} (kvs : List (NestedKey × α)) (k : NestedKey) (x : α) : (setT kvs k x).length ≤ kvs.length + 1 := by
  unfold setT
  split
  · rw [List.length_map]; omega
  · simp
/-- the new object of a dict with tuple keys -/
theorem dN_ok {H : Hp} {h : Heap} {a : Addr} {es : List Ent} (hd : (a == sysModules) = false) (hz : es.length ≤ sizeLine) (dd : h.DictOfH (nestedKind X.prog X.w) a es) (hB : BX B X) : ∃ ob, ObjOk X.prog X.w H h a (dN B.P B.w a ob es) := by
  obtain ⟨ob, es', ep, h1, h2, h3, h4, _, h6⟩ := dd
  refine ⟨ob, ⟨h1, hd, hz, es', ep, h2, h3, ?_, h6⟩, ⟨ob, h1⟩, fun h1 h2 ⟨e1, e2⟩ k => ⟨k _ e1, e2⟩⟩
  rw [h4, hB.P, hB.w]
/-- d[k] = v, by values -/
def rSetN (B : Bs) : TSet := fun o i v H Q => ∃ a ob es kvs m F q k, o = .ref a ∧ H a = some (dN B.P B.w a ob es) ∧ Same F H ∧ EntXs B m F es kvs ∧ i = .ref q ∧ Rel B H (.ref q) (ofNK k) ∧ k.depth ≤ 8 ∧ kvs.length < sizeLine ∧
  ∀ ob' u, RelV v u → Q (upd H a (dN B.P B.w a ob' (storedH es k q u)))
theorem set_N (hB : BX B X) (hu : X.A.units + 100 < cLine) : PSet X (rSetN B) := by
  intro pins s σ H o i v ov iv u Q I ro ri rv h
  obtain ⟨a, ob, es, kvs, m, F, q, k, rfl, ha, f, he, rfl, hk, hd, hl, hq⟩ := h
  cases ro
  cases ri
  have hk2 : ∀ x ∈ es, Rel B H (.ref x.2.1) (ofNK x.1) ∧ x.1.depth ≤ 8 := fun x hx => let ⟨p, r⟩ := he.keys x hx; ⟨p.mono f, r⟩
  obtain ⟨d1, d2, d3⟩ := dN_at hB I ha hk2
  refine wpAny_setItem_heap (hsz := d3) (by show X.A.units + 1 + 8 < cLine; omega) (key_is hB I hk hd) d1 fun h' dd' hs => ?_
  have hz : (storedH es k q u).length ≤ sizeLine := by have := storedH_length es k q u; have := he.len; omega
  obtain ⟨ob', hok⟩ := dN_ok (H := upd H a (.lst [])) (B := B) d2 hz dd' hB
  have he' : ∃ z, h'.get? a = some z := hok.2.1
  exact ⟨_, d_write I (by rw [ha]; exact True.intro) hs he' hok, hq ob' u rv⟩

/-! ### o[i] = v -/
def rSetAll (B : Bs) : TSet := fun o i v H Q => rSetL o i v H Q ∨ rSetN B o i v H Q ∨ rSetD o i v H Q
theorem PSet.or {t t' : TSet} (h : PSet X t) (h' : PSet X t') : PSet X (fun o i v H Q => t o i v H Q ∨ t' o i v H Q) := by
  intro pins s σ H o i v ov iv u Q I ro ri rv q
  rcases q with q | q
  · exact h pins s σ H o i v ov iv u Q I ro ri rv q
  · exact h' pins s σ H o i v ov iv u Q I ro ri rv q
theorem set_all (hB : BX B X) (hu : X.A.units + 100 < cLine) : PSet X (rSetAll B) := PSet.or set_list (PSet.or (set_N hB hu) (set_dict (by omega)))
def setV (x y v : Val) (S : Sto) : Option Sto := match x with
  | .d _ => none
  | .r n => match S[n]? with
    | some (.lst xs) => match asD S y with
      | some (.int i) => (ixN xs.length i).map fun j => S.set n (.lst (xs.set j v))
      | _ => none
    | some (.dct kvs) => if kvs.length < 16777216 then (match toD y S with
      | .ok d S' => (keyT d).map fun k => S'.set n (.dct (setT kvs k v))
      | _ => none) else none
    | some (.dck kvs) => if kvs.length < 16777216 then (match asD S y with
      | some d => (keyK d).map fun k => S.set n (.dck (setK kvs k v))
      | _ => none) else none
    | _ => none
theorem RelXs.set {m : List Addr} {F : Hp} {v : V} {x : Val} (h : RelX B m F v x) : ∀ {vs : List V} {xs : List Val} (j : Nat), RelXs B m F vs xs → RelXs B m F (vs.set j v) (xs.set j x)
  | _, _, _, .nil => .nil
  | _, _, 0, .cons _ r => .cons h r
  | _, _, j + 1, .cons q r => .cons q (RelXs.set h j r)
theorem KvXs.any {m : List Addr} {F : Hp} {k : Key} : ∀ {es : List (Key × V)} {kvs : List (Key × Val)}, KvXs B m F es kvs → (es.any fun kv => decide (kv.1 = k)) = (kvs.any fun kv => decide (kv.1 = k))
  | _, _, .nil => rfl
  | _, _, .cons _ t => by rw [List.any_cons, List.any_cons, KvXs.any t]
theorem KvXs.append {m : List Addr} {F : Hp} : ∀ {es es2 : List (Key × V)} {kvs kvs2 : List (Key × Val)}, KvXs B m F es kvs → KvXs B m F es2 kvs2 → KvXs B m F (es ++ es2) (kvs ++ kvs2)
  | _, _, _, _, .nil, s => s
  | _, _, _, _, .cons h t, s => .cons h (KvXs.append t s)
theorem KvXs.map {m : List Addr} {F : Hp} {k : Key} {v : V} {x : Val} (rx : RelX B m F v x) : ∀ {es : List (Key × V)} {kvs : List (Key × Val)}, KvXs B m F es kvs → KvXs B m F (es.map fun kv => if kv.1 = k then (kv.1, v) else kv) (kvs.map fun kv => if kv.1 = k then (kv.1, x) else kv)
  | _, _, .nil => .nil
  | _, _, .cons (k := k') h t => by
    have i := KvXs.map (k := k) rx t
    by_cases e : k' = k
    · rw [List.map_cons, List.map_cons, if_pos e, if_pos e]; exact .cons rx i
    · rw [List.map_cons, List.map_cons, if_neg e, if_neg e]; exact .cons h i
theorem KvXs.put {m : List Addr} {F : Hp} {k : Key} {v : V} {x : Val} {es : List (Key × V)} {kvs : List (Key × Val)} (h : KvXs B m F es kvs) (rx : RelX B m F v x) : KvXs B m F (putK es k v) (setK kvs k x) := by
  unfold putK setK
  rw [h.any]
  split
  · exact h.map rx
  · exact h.append (.cons rx .nil)
theorem look_K {H : Hp} {F : Hp} {v : V} {x : D} {k : Key} (e : keyK x = some k) (h : Look B F H v x) : v = kV k := by
  cases x with
  | int i => cases h; cases e; rfl
  | str s => cases h; cases e; rfl
  | _ => cases e
theorem set_V {Hk : Hp} {m : List Addr} {F H : Hp} {S S' : Sto} {v w u : V} {x y z : Val} {Q : Hp → Prop} (R : RH B Hk m F S H) (rx : RelX B m F v x) (ry : RelX B m F w y) (rz : RelX B m F u z) (e : setV x y z S = some S')
    (q : ∀ H' F', RH B Hk m F' S' H' → Grow m F H m F' H' → Q H') : rSetAll B v w u H Q := by
  cases rx with
  | d _ => cases e
  | r hn =>
    rename_i n a
    simp only [setV] at e
    split at e
    · rename_i xs hs
      split at e
      · rename_i i hy
        obtain ⟨h0, vs, h1, h2⟩ := R.cell n a _ hn hs
        obtain ⟨j, hj, rfl⟩ := Option.map_eq_some_iff.mp e
        have l := look R ry hy
        cases l
        obtain ⟨R', G⟩ := R.write (c := .lst xs) (c' := .lst (xs.set j z)) (o := .lst (vs.set j u)) hn h0 ⟨h0, _, upd_same, h2.set rz j⟩
        exact .inl ⟨a, vs, i, j, rfl, rfl, h1, by rw [h2.len]; exact hj, q _ _ R' G⟩
      · cases e
    · rename_i kvs hs
      split at e
      · rename_i hl
        split at e
        · rename_i d S1 hy
          obtain ⟨k, hk, rfl⟩ := Option.map_eq_some_iff.mp e
          obtain ⟨F1, R1, G1, r1⟩ := keepD R ry hy
          have hs1 : S1[n]? = some (.dct kvs) ∨ ∃ d', S1[n]? = some (.frz d') := by
            cases y with
            | d y => simp only [toD_d, Out.ok.injEq] at hy; exact .inl (hy.2 ▸ hs)
            | r n2 =>
              simp only [toD] at hy
              split at hy
              · simp only [Out.ok.injEq] at hy; exact .inl (hy.2 ▸ hs)
              · split at hy
                · simp only [Out.ok.injEq] at hy
                  rw [← hy.2]
                  by_cases hh : n2 = n
                  · subst hh
                    exact .inr ⟨_, by rw [List.getElem?_set_self (List.getElem?_eq_some_iff.mp hs).1]⟩
                  · exact .inl (by rw [List.getElem?_set_ne hh]; exact hs)
                · cases hy
              · cases hy
          rcases hs1 with hs1 | ⟨d', hs1⟩
          · obtain ⟨h0, ob, es, h1, h2⟩ := R1.cell n a _ hn hs1
            obtain ⟨b, rfl, hb, hd⟩ := keyT_of hk r1
            refine .inr (.inl ⟨a, ob, es, kvs, m, F1, b, k, rfl, h1, R1.froz, h2, rfl, hb.mono R1.froz, hd, by rw [szl]; exact hl, fun ob' u' ru => ?_⟩)
            obtain ⟨R', G⟩ := R1.write (c := .dct kvs) (c' := .dct (setT kvs k z)) (o := dN B.P B.w a ob' (storedH es k b u')) hn h0 ⟨h0, _, _, upd_same, h2.put hb hd ru (rz.grow G1)⟩ dN_nct
            exact q _ _ R' (G1.trans G)
          · have hx : Rel B F1 (.ref a) d' := R1.cell n a _ hn hs1
            obtain ⟨h0, ob, es, h1, h2⟩ := R.cell n a _ hn hs
            exfalso
            have : y = .r n := by
              cases y with
              | d y => simp only [toD_d, Out.ok.injEq] at hy; rw [← hy.2, hs] at hs1; cases hs1
              | r n2 =>
                by_cases hh : n2 = n
                · rw [hh]
                · simp only [toD] at hy
                  split at hy
                  · simp only [Out.ok.injEq] at hy; rw [← hy.2, hs] at hs1; cases hs1
                  · split at hy
                    · simp only [Out.ok.injEq] at hy; rw [← hy.2, List.getElem?_set_ne hh, hs] at hs1; cases hs1
                    · cases hy
                  · cases hy
            subst this
            simp only [toD, hs] at hy
            split at hy
            · rename_i y' hy'
              simp only [Out.ok.injEq] at hy
              rw [← hy.1] at hk
              simp only [cellD, Option.map_eq_some_iff] at hy'
              obtain ⟨_, _, rfl⟩ := hy'
              cases hk
            · cases hy
        · cases e
      · cases e
    · rename_i kvs hs
      split at e
      · rename_i hl
        split at e
        · rename_i d hy
          obtain ⟨h0, vs, h1, h2⟩ := R.cell n a _ hn hs
          obtain ⟨k, hk, rfl⟩ := Option.map_eq_some_iff.mp e
          have l := look_K hk (look R ry hy)
          subst l
          obtain ⟨R', G⟩ := R.write (c := .dck kvs) (c' := .dck (setK kvs k z)) (o := .dK (putK vs k u)) hn h0 ⟨h0, _, upd_same, h2.put rz⟩
          exact .inr (.inr ⟨a, _, rfl, .inl ⟨vs, k, h1, rfl, by rw [h2.len, szl]; exact hl, rfl⟩, q _ _ R' G⟩)
        · cases e
      · cases e
    · cases e
/-- o[i] = v as a target -/
def nSub (fo fi : DE) : DG := fun v sl S => match fo sl S with
  | .ok x S1 => match fi sl S1 with
    | .ok y S2 => (setV x y v S2).map fun S3 => (sl, S3)
    | _ => none
  | _ => none
theorem dg_sub {o i : Expr} {fo fi : DE} {pos : Pos} (hB : BX B X) (hu : X.A.units + 100 < cLine) (ho : PE X o (denE B W fo)) (hi : PE X i (denE B W fi))
    (ha : ∀ v, assign (.Subscript o i pos) X.env v = (do
      let ov ← holding [v] (eval o X.env)
      let iv ← holding [v, ov] (eval i X.env)
      standAt pos
      holding [v, ov, iv] (setItem ov iv v)
      release [v, ov, iv] []) := by intro _; rfl) : PG X (.Subscript o i pos) (denG B (nSub fo fi)) :=
  PG_weak (pg_sub ho hi (set_all hB hu) ha) fun v σ H Q ⟨Hk, m, F, sl, S, z, R, R2, rz, q⟩ => by
    simp only [nSub] at q
    refine ⟨Hk, m, F, sl, S, R, R2, ?_⟩
    cases e1 : fo sl S with
    | exc _ _ => rw [e1] at q; exact False.elim q
    | bad => rw [e1] at q; exact False.elim q
    | ok x S1 =>
      rw [e1] at q
      dsimp only at q
      intro w1 H1 m1 F1 R1 G1 rx
      refine ⟨Hk, m1, F1, sl, S1, R1, R2.mono G1, ?_⟩
      cases e2 : fi sl S1 with
      | exc _ _ => rw [e2] at q; exact False.elim q
      | bad => rw [e2] at q; exact False.elim q
      | ok y S2 =>
        rw [e2] at q
        dsimp only at q
        intro w2 H2 m2 F2 R3 G2 ry
        cases e3 : setV x y z S2 with
        | none => rw [e3] at q; exact False.elim q
        | some S3 =>
          rw [e3] at q
          have G12 := G1.trans G2
          exact set_V R3 (rx.grow G2) ry (rz.grow G12) e3 fun H' F' R4 G4 => q σ H' m2 F' R4 (R2.mono (G12.trans G4)) (G12.trans G4)

/-! ### {} -/
def cDct : DE := fun _ S => .ok (.r S.length) (S ++ [Cell.dct []])
def cDck : DE := fun _ S => .ok (.r S.length) (S ++ [Cell.dck []])
theorem pe_newN {pos : Pos} (hB : BX B X) : PE X (.Dict [] [] pos) (fun σ H Q => ∀ p ob, H p = none → Q (.ref p) (upd H p (dN B.P B.w p ob []))) := ⟨fun pins s σ H Q I h => by
  have hbig : (s.heap.objs.size == sysModules) = false := beq_eq_false_iff_ne.mpr (Ne.symm (Nat.ne_of_lt I.big))
  obtain ⟨ob, hok⟩ := dN_ok (X := X) (B := B) (H := upd H s.heap.objs.size (.lst [])) hbig (by simp) (Heap.DictOfH.new (knd := nestedKind X.prog X.w) s.heap) hB
  exact wpAny_Dict_empty ⟨.ref s.heap.objs.size, _, I.laid (a := s.heap.objs.size) (o := dN B.P B.w s.heap.objs.size ob []) (t' := s.toks) (fun _ _ q => Heap.get?_push_of_some _ q) (Nat.le_refl _) hok, rfl, h _ ob (I.hok.fresh (Nat.le_refl _))⟩⟩
theorem de_dct {pos : Pos} (hB : BX B X) : PE X (.Dict [] [] pos) (denE B W cDct) := PE_weak (pe_newN hB) fun σ H Q ⟨Hk, m, F, sl, S, R, R2, q⟩ p ob hp => by
  obtain ⟨R', G⟩ := R.newC (o := dN B.P B.w p ob []) (c := .dct []) hp ⟨R.none hp, ob, [], upd_same, .nil⟩ dN_nct
  exact q _ _ _ F R' G (.r (app_last R.len))
theorem de_dck {pos : Pos} : PE X (.Dict [] [] pos) (denE B W cDck) := PE_weak pe_dnewK fun σ H Q ⟨Hk, m, F, sl, S, R, R2, q⟩ => fun p hp => by
  obtain ⟨R', G⟩ := R.newC (o := .dK []) (c := .dck []) hp ⟨R.none hp, [], upd_same, .nil⟩
  exact q _ _ _ F R' G (.r (app_last R.len))

/-! ### d.get -/
def rGet (B : Bs) : V → List V → Hp → VK → Prop := fun x vs H Q => ∃ y, (vs = [y] ∨ ∃ z, vs = [y, z]) ∧
  ((∃ a o, x = .ref a ∧ DGet H a y o ∧ Q (o.getD ((vs[1]?).getD .non)) H) ∨ ∃ a ob es kvs q k F, x = .ref a ∧ H a = some (dN B.P B.w a ob es) ∧ Same F H ∧ Ents B F es kvs ∧ y = .ref q ∧ Rel B H (.ref q) (ofNK k) ∧ k.depth ≤ 8 ∧
    (∀ v d, getT kvs k = some d → Rel B F v d → Q v H) ∧ (getT kvs k = none → Q ((vs[1]?).getD .non) H))
theorem mt_getA (hB : BX B X) (hu : X.A.units + 100 < cLine) : MtR X "dict.get" (rGet B) := by
  intro pins s σ H x vs v us Q I rx rv h
  obtain ⟨y, hvs, h⟩ := h
  rcases h with ⟨a, o, rfl, g, q⟩ | ⟨a, ob, es, kvs, qa, k, F, rfl, ha, f, he, rfl, hk, hd, q1, q2⟩
  · cases rx
    rcases hvs with rfl | ⟨z, rfl⟩
    · obtain ⟨u, rfl, ru⟩ := rv.one
      exact d_get1 (by omega) I g ru fun w' s3 I3 rw' => ⟨_, H, I3, rw', q⟩
    · obtain ⟨u1, u2, rfl, r1, r2⟩ := rv.two
      exact d_get2 (by omega) I g r1 r2 fun w' s3 I3 rw' => ⟨_, H, I3, rw', q⟩
  · cases rx
    obtain ⟨d1, d2, d3⟩ := dN_at hB I ha (he.mono f).keys
    have hroom : (nestedKind X.prog X.w).room X.A.in1 := by show X.A.units + 1 + 8 < cLine; omega
    have key := key_is hB I hk hd
    obtain ⟨g1, g2⟩ := he.get (k := k)
    rcases hvs with rfl | ⟨z, rfl⟩
    · obtain ⟨u, rfl, ru⟩ := rv.one
      cases ru
      refine call_meetsIn PySem.F.slot_dict_get d1.typeIs PySem.F.entry_dict_get (PySem.F.args_dict_get_2 _ _) (meetsH_dict_get (nestedKind X.prog X.w) a qa d2) ⟨hroom, k, es, key, d1, ?_⟩
      cases e : getT kvs k with
      | none => rw [g2 e]; exact ⟨.non, H, I.tok _, rfl, q2 e⟩
      | some d =>
        obtain ⟨q', u', v', e1, e2, e3⟩ := g1 d e
        rw [e1]
        exact ⟨v', H, I.tok _, e2, q1 v' d e e3⟩
    · obtain ⟨u1, u2, rfl, r1, r2⟩ := rv.two
      cases r1
      refine call_meetsIn PySem.F.slot_dict_get d1.typeIs PySem.F.entry_dict_get (PySem.F.args_dict_get_3 _ _ _) (meetsH_dict_get_default (nestedKind X.prog X.w) a qa d2 u2) ⟨hroom, k, es, key, d1, ?_⟩
      cases e : getT kvs k with
      | none => rw [g2 e]; exact ⟨z, H, I.tok _, r2, q2 e⟩
      | some d =>
        obtain ⟨q', u', v', e1, e2, e3⟩ := g1 d e
        rw [e1]
        exact ⟨v', H, I.tok _, e2, q1 v' d e e3⟩
def getD1 (d y : D) : Option (Option D) := match d with
  | .dct kvs => (keyT y).map fun k => getT kvs k
  | .dck kvs => (keyK y).map fun k => getK kvs k
  | _ => none
def lkGet (x y : Val) (S : Sto) : Option (Option D) := match asD S x, asD S y with
  | some d, some e => getD1 d e
  | _, _ => none
def kGet (x : Val) (xs : List Val) (S : Sto) : Out Val := match xs with
  | [y] => (match lkGet x y S with
    | some (some z) => .ok (.d z) S
    | some none => .ok (.d .non) S
    | none => .bad)
  | [y, w] => (match lkGet x y S with
    | some (some z) => .ok (.d z) S
    | some none => .ok w S
    | none => .bad)
  | _ => .bad
theorem get_core {Hk : Hp} {m : List Addr} {F H : Hp} {S : Sto} {v w : V} {x y : Val} {vs : List V} {o : Option D} {Q : VK} (R : RH B Hk m F S H) (rx : RelX B m F v x) (ry : RelX B m F w y) (e : lkGet x y S = some o) (hvs : vs = [w] ∨ ∃ z, vs = [w, z])
    (q1 : ∀ z u, o = some z → Rel B F u z → Q u H) (q2 : o = none → Q ((vs[1]?).getD .non) H) : rGet B v vs H Q := by
  unfold lkGet at e
  split at e
  · rename_i d k hx hy
    have lx := look R rx hx
    have ly := (look R ry hy).rel R.froz
    refine ⟨w, hvs, ?_⟩
    cases lx with
    | dct ha he =>
      obtain ⟨k', hk, rfl⟩ := Option.map_eq_some_iff.mp e
      obtain ⟨b, rfl, hb, hd⟩ := keyT_of hk ly
      exact .inr ⟨_, _, _, _, b, k', F, rfl, ha, R.froz, he, rfl, hb, hd, fun u z hz r => q1 z u hz r, q2⟩
    | dck ha he =>
      obtain ⟨k', hk, rfl⟩ := Option.map_eq_some_iff.mp e
      have := keyK_of hk ly
      subst this
      refine .inl ⟨_, _, rfl, DGet.k ha, ?_⟩
      obtain ⟨g1, g2⟩ := he.get (k := k')
      cases h : getK _ k' with
      | none => rw [g2 h]; exact q2 h
      | some z => obtain ⟨u, e1, e2⟩ := g1 z h; rw [e1]; exact q1 z u h e2
    | _ => cases e
  · cases e
theorem p_get : PrimM B W (rGet B) kGet := by
  intro Hk σ m F S H v x vs xs Q R rx rs p
  unfold kGet at p
  split at p
  · cases rs with
    | cons ry rs =>
      cases rs
      split at p
      · rename_i z e; exact get_core R rx ry e (.inl rfl) (fun z' u h r => by cases h; exact p u H m F R (Grow.refl _ _ _) (.d r)) (fun h => by cases h)
      · rename_i e; exact get_core R rx ry e (.inl rfl) (fun z' u h r => by cases h) (fun h => p _ H m F R (Grow.refl _ _ _) (.d .non))
      · exact False.elim p
  · cases rs with
    | cons ry rs =>
      cases rs with
      | cons rw rs =>
        cases rs
        split at p
        · rename_i z e; exact get_core R rx ry e (.inr ⟨_, rfl⟩) (fun z' u h r => by cases h; exact p u H m F R (Grow.refl _ _ _) (.d r)) (fun h => by cases h)
        · rename_i e; exact get_core R rx ry e (.inr ⟨_, rfl⟩) (fun z' u h r => by cases h) (fun h => p _ H m F R (Grow.refl _ _ _) rw)
        · exact False.elim p
  · exact False.elim p
end
end Dn

set_option Elab.async false
set_option linter.all false
set_option maxRecDepth 100000
set_option maxHeartbeats 2000000
/-! Dn: loops. -/
namespace Dn
open PySem L2 PyProof.Rows

abbrev Its' := Sto → Option (List Val)
abbrev DI := Sl → Sto → Out Its'
/-- at each turn it yields what stands in the source then -/
def ItOk (B : Bs) (m0 : List Addr) (F0 H0 : Hp) (J : It) (it : Its') : Prop := ∀ Hk i m F S H xs, RH B Hk m F S H → Grow m0 F0 H0 m F H → it S = some xs →
  (∀ x, xs[i]? = some x → J.go i H ∧ ∀ v H', J.yld i H v H' → ∃ F', RH B Hk m F' S H' ∧ Grow m F H m F' H' ∧ RelX B m F' v x) ∧ (xs[i]? = none → J.stop i H)
def denI (B : Bs) (W : WX) (f : DI) : TI := fun σ H R => ∃ Hk m F sl S, RH B Hk m F S H ∧ RSl B m F sl σ ∧ match f sl S with
  | .ok it S1 => ∀ J m1 F1 H1, RH B Hk m1 F1 S1 H1 → Grow m F H m1 F1 H1 → ItOk B m1 F1 H1 J it → R J H1
  | .exc c S' => ∀ H' m' F', RH B Hk m' F' S' H' → Grow m F H m' F' H' → W (.ref (B.exA c)) none σ H'
  | .bad => False
theorem PI_weak {X : Cx} {tg e : Expr} {t t' : TI} (h : PI X tg e t) (w : ∀ σ H R, t' σ H R → t σ H R) : PI X tg e t' := ⟨fun pins s σ H R I q => h.run pins s σ H R I (w σ H R q)⟩
def loopG (it : Its') (g : DG) (body : DS) : Nat → Nat → Sl → Sto → Fl
  | 0, _, _, _ => .bad
  | k + 1, i, sl, S => match it S with
    | none => .bad
    | some xs => match xs[i]? with
      | none => .nx sl S
      | some x => match g x sl S with
        | none => .bad
        | some (sl1, S1) => match body sl1 S1 with
          | .nx sl2 S2 => loopG it g body k (i + 1) sl2 S2
          | .ct sl2 S2 => loopG it g body k (i + 1) sl2 S2
          | .bk sl2 S2 => .nx sl2 S2
          | .ret x S2 => .ret x S2
          | .exc c sl2 S2 => .exc c sl2 S2
          | .bad => .bad
def forK (g : DG) (body : DS) (sl : Sl) (it : Its') (S1 : Sto) : Fl := match it S1 with
  | none => .bad
  | some xs => loopG it g body (xs.length + 1) 0 sl S1
def sFor (f : DI) (g : DG) (body : DS) : DS := fun sl S => (f sl S).fl sl (forK g body sl)
section
variable {X : Cx} {B : Bs} {W : WX}
theorem ds_for {tg iter : Expr} {body : List Stmt} {f : DI} {g : DG} {b : DS} {pos : Pos} (hp : PassesOwn (model X.prog X.w) X.A X.env X.xe) (hc : X.calm = true) (hi : PI X tg iter (denI B W f)) (hg : PG X tg (denG B g)) (hb : PSs X body (denS B W b))
    (hs : ∀ x, foldedSetIterable iter X.env x = pure x := by intro _; rfl) : PS X (.For tg iter body [] pos) (denS B W (sFor f g b)) :=
  PS_weak (ps_for hp hc hi hg hb hs) fun D σ H ⟨Hk, m, F, sl, S, R, R2, q⟩ => by
    refine ⟨Hk, m, F, sl, S, R, R2, ?_⟩
    unfold sFor at q
    cases e : f sl S with
    | exc c S' => rw [e] at q; exact fun H' m' F' R' G => q σ H' m' F' R' (R2.mono G) G
    | bad => rw [e] at q; exact q
    | ok it S1 =>
      rw [e] at q
      intro J m1 F1 H1 R1 G1 ok
      rw [Out.fl_ok] at q
      unfold forK at q
      cases e1 : it S1 with
      | none => rw [e1] at q; exact False.elim q
      | some xs =>
        rw [e1] at q
        refine ⟨fun i k σ H => ∃ m2 F2 sl2 S2, RH B Hk m2 F2 S2 H ∧ RSl B m2 F2 sl2 σ ∧ Grow m1 F1 H1 m2 F2 H ∧ postS B W Hk m2 F2 H (loopG it g b k i sl2 S2) D, ⟨xs.length + 1, m1, F1, sl, S1, R1, R2.mono G1, Grow.refl _ _ _, postS_grow G1 q⟩, ?_⟩
        rintro i k σ2 H2 ⟨m2, F2, sl2, S2, R3, R4, G2, q2⟩
        cases k with
        | zero => exact False.elim q2
        | succ k =>
          rw [loopG] at q2
          cases e2 : it S2 with
          | none => rw [e2] at q2; exact False.elim q2
          | some ys =>
            rw [e2] at q2
            dsimp only at q2
            obtain ⟨k1, k2⟩ := ok Hk i m2 F2 S2 H2 ys R3 G2 e2
            cases e3 : ys[i]? with
            | none =>
              rw [e3] at q2
              exact .inl ⟨k2 e3, postS_nx q2 R3 R4 (Grow.refl _ _ _)⟩
            | some x =>
              rw [e3] at q2
              dsimp only at q2
              obtain ⟨go, yld⟩ := k1 x e3
              refine .inr ⟨go, fun σ' H' => ∃ m3 F3 sl3 S3, RH B Hk m3 F3 S3 H' ∧ RSl B m3 F3 sl3 σ' ∧ Grow m1 F1 H1 m3 F3 H' ∧ postS B W Hk m3 F3 H' (loopG it g b k (i + 1) sl3 S3) D, fun σ' H' h => ⟨k, Nat.lt_succ_self k, h⟩, fun v H' y => ?_⟩
              obtain ⟨F3, R5, G3, rx⟩ := yld v H' y
              refine ⟨Hk, m2, F3, sl2, S2, x, R5, R4.mono G3, rx, ?_⟩
              cases e4 : g x sl2 S2 with
              | none => rw [e4] at q2; exact False.elim q2
              | some p =>
                obtain ⟨sl3, S3⟩ := p
                rw [e4] at q2
                intro σ4 H4 m4 F4 R6 R7 G4
                refine ⟨Hk, m4, F4, sl3, S3, R6, R7, ?_⟩
                have G24 := G3.trans G4
                dsimp only at q2
                cases e5 : b sl3 S3 with
                | nx sl5 S5 => rw [e5] at q2; exact fun σ5 H5 m5 F5 R8 R9 G5 => ⟨m5, F5, sl5, S5, R8, R9, G2.trans (G24.trans G5), postS_grow (G24.trans G5) q2⟩
                | ct sl5 S5 => rw [e5] at q2; exact fun σ5 H5 m5 F5 R8 R9 G5 => ⟨m5, F5, sl5, S5, R8, R9, G2.trans (G24.trans G5), postS_grow (G24.trans G5) q2⟩
                | bk sl5 S5 => rw [e5] at q2; exact fun σ5 H5 m5 F5 R8 R9 G5 => q2 σ5 H5 m5 F5 R8 R9 (G24.trans G5)
                | ret x5 S5 => rw [e5] at q2; exact fun v5 H5 m5 F5 R8 G5 r5 => q2 v5 H5 m5 F5 R8 (G24.trans G5) r5
                | exc c5 sl5 S5 => rw [e5] at q2; exact fun σ5 H5 m5 F5 R8 R9 G5 => q2 σ5 H5 m5 F5 R8 R9 (G24.trans G5)
                | bad => rw [e5] at q2; exact False.elim q2

/-! ### while -/
def whl (t : DT) (body : DS) : Nat → Sl → Sto → Fl
  | 0, _, _ => .bad
  | k + 1, sl, S => (t sl S).fl sl fun c S1 => if c = true then (match body sl S1 with
      | .nx sl2 S2 => whl t body k sl2 S2
      | .ct sl2 S2 => whl t body k sl2 S2
      | .bk sl2 S2 => .nx sl2 S2
      | .ret x S2 => .ret x S2
      | .exc c sl2 S2 => .exc c sl2 S2
      | .bad => .bad) else .nx sl S1
def sWhile (fuel : Nat) (t : DT) (body : DS) : DS := fun sl S => whl t body fuel sl S
theorem ds_while (fuel : Nat) {c : Expr} {body : List Stmt} {t : DT} {b : DS} {pos : Pos} (hp : PassesOwn (model X.prog X.w) X.A X.env X.xe) (hc : PT X c (denT B W t)) (hb : PSs X body (denS B W b)) : PS X (.While c body [] pos) (denS B W (sWhile fuel t b)) :=
  PS_weak (ps_while hp hc hb) fun D σ H ⟨Hk, m, F, sl, S, R, R2, q⟩ => by
    refine ⟨fun k σ H => ∃ m2 F2 sl2 S2, RH B Hk m2 F2 S2 H ∧ RSl B m2 F2 sl2 σ ∧ postS B W Hk m2 F2 H (whl t b k sl2 S2) D, ⟨fuel, m, F, sl, S, R, R2, q⟩, ?_⟩
    rintro k σ2 H2 ⟨m2, F2, sl2, S2, R3, R4, q2⟩
    cases k with
    | zero => exact False.elim q2
    | succ k =>
      rw [whl] at q2
      refine den_mono (denS_step (rel := relT) (k := fun c S1 => if c = true then (match b sl2 S1 with
        | .nx sl2 S2 => whl t b k sl2 S2
        | .ct sl2 S2 => whl t b k sl2 S2
        | .bk sl2 S2 => .nx sl2 S2
        | .ret x S2 => .ret x S2
        | .exc c sl2 S2 => .exc c sl2 S2
        | .bad => .bad) else .nx sl2 S1) R3 R4 q2) fun v H3 ⟨m3, F3, S3, x, R5, R6, G, r1, p⟩ => ?_
      cases r1
      cases v with
      | false => exact postS_nx p R5 R6 (Grow.refl _ _ _)
      | true =>
        rw [if_pos rfl] at p
        refine ⟨fun σ' H' => ∃ m4 F4 sl4 S4, RH B Hk m4 F4 S4 H' ∧ RSl B m4 F4 sl4 σ' ∧ postS B W Hk m4 F4 H' (whl t b k sl4 S4) D, fun σ' H' h => ⟨k, Nat.lt_succ_self k, h⟩, Hk, m3, F3, sl2, S3, R5, R6, ?_⟩
        cases e5 : b sl2 S3 with
        | nx sl5 S5 => rw [e5] at p; exact fun σ5 H5 m5 F5 R8 R9 G5 => ⟨m5, F5, sl5, S5, R8, R9, postS_grow G5 p⟩
        | ct sl5 S5 => rw [e5] at p; exact fun σ5 H5 m5 F5 R8 R9 G5 => ⟨m5, F5, sl5, S5, R8, R9, postS_grow G5 p⟩
        | bk sl5 S5 => rw [e5] at p; exact fun σ5 H5 m5 F5 R8 R9 G5 => p σ5 H5 m5 F5 R8 R9 G5
        | ret x5 S5 => rw [e5] at p; exact p
        | exc c5 sl5 S5 => rw [e5] at p; exact p
        | bad => rw [e5] at p; exact p
end
end Dn

set_option Elab.async false
set_option linter.all false
set_option maxRecDepth 100000
set_option maxHeartbeats 2000000
/-! Dn: comprehensions; what is walked. -/
namespace Dn
open PySem L2 PyProof.Rows

section
variable {X : Cx} {B : Bs} {W : WX}
/-! ### targets of comprehensions: names alone -/
def denF (B : Bs) (is : List Nat) (t : Val → Sl → Sto → Option Sl) : TG := fun v σ H Q => ∃ Hk m F sl S x, RH B Hk m F S H ∧ RSl B m F sl σ ∧ RelX B m F v x ∧ match t x sl S with
  | some sl' => ∀ σ', RSl B m F sl' σ' → σ'.length = σ.length → (∀ j, j ∉ is → σ'[j]? = σ[j]?) → Q σ' H
  | none => False
def denFs (B : Bs) (is : List Nat) (t : List Val → Sl → Sto → Option Sl) : TGs := fun v σ H Q => ∃ Hk m F sl S x, RH B Hk m F S H ∧ RSl B m F sl σ ∧ RelXs B m F v x ∧ match t x sl S with
  | some sl' => ∀ σ', RSl B m F sl' σ' → σ'.length = σ.length → (∀ j, j ∉ is → σ'[j]? = σ[j]?) → Q σ' H
  | none => False
abbrev DF := Val → Sl → Sto → Option Sl
abbrev DFs := List Val → Sl → Sto → Option Sl
def fName (i : Nat) : DF := fun x sl _ => some (sl.set i (some x))
def fNil : DFs := fun xs sl _ => match xs with
  | [] => some sl
  | _ => none
def fCons (t : DF) (u : DFs) : DFs := fun xs sl S => match xs with
  | x :: r => (t x sl S).bind fun sl1 => u r sl1 S
  | [] => none
def fTup (k : Nat) (t : DFs) : DF := fun x sl S => match tupItems S x with
  | some xs => if xs.length = k then t xs sl S else none
  | none => none
theorem df_name (i : Nat) {x : Str} {pos : Pos} (hN : X.N.Nodup) (hi : X.N[i]? = some x := by rfl) (hx : Loc X.env.scope x := by first | exact Or.inl rfl | exact Or.inr rfl) (hf : X.fn x = true ∨ X.env.scope.names.lookup x = some .local := by first | exact .inl rfl | exact .inr rfl) : PG X (.Name x pos) (denF B [i] (fName i)) :=
  PG_weak (pg_name hN hi hx hf) fun v σ H Q ⟨Hk, m, F, sl, S, x, R, R2, r, q⟩ => q _ (R2.set i r) (by simp) fun j hj => List.getElem?_set_ne (fun e => hj (by simp [e]))
theorem dfs_nil : PGs X [] (denFs B [] fNil) := PGs_weak pgs_nil fun v σ H Q ⟨Hk, m, F, sl, S, xs, R, R2, r, q⟩ => by
  cases r with
  | nil => exact ⟨rfl, q σ R2 rfl fun _ _ => rfl⟩
  | cons _ _ => exact False.elim q
theorem dfs_cons {e : Expr} {es : List Expr} {i1 i2 : List Nat} {t : DF} {u : DFs} (h1 : PG X e (denF B i1 t)) (h2 : PGs X es (denFs B i2 u)) (hs : (assignEach (e :: es) X.env).map (·.2) = assign e X.env :: (assignEach es X.env).map (·.2) := by rfl) : PGs X (e :: es) (denFs B (i1 ++ i2) (fCons t u)) :=
  PGs_weak (pgs_cons h1 h2 hs) fun vs σ H Q ⟨Hk, m, F, sl, S, xs, R, R2, r, q⟩ => by
    cases r with
    | nil => exact False.elim q
    | @cons v vs x xs r1 r2 =>
      refine ⟨v, vs, rfl, Hk, m, F, sl, S, x, R, R2, r1, ?_⟩
      simp only [fCons] at q
      cases e : t x sl S with
      | none => rw [e] at q; exact False.elim q
      | some sl1 =>
        rw [e] at q
        refine fun σ' R2' ln fr => ⟨Hk, m, F, sl1, S, xs, R, R2', r2, ?_⟩
        simp only [Option.bind_some] at q
        cases e2 : u xs sl1 S with
        | none => rw [e2] at q; exact False.elim q
        | some sl2 => rw [e2] at q; exact fun σ2 R3 ln2 fr2 => q σ2 R3 (ln2.trans ln) fun j hj => (fr2 j fun h => hj (List.mem_append_right _ h)).trans (fr j fun h => hj (List.mem_append_left _ h))
theorem df_tup {es : List Expr} {k k2 : Nat} {is : List Nat} {pos : Pos} {t : DFs} (hB : BX B X) (hc : X.calm = true) (h : PGs X es (denFs B is t)) (hn : (assignEach es X.env).length = k := by rfl) (hst : (assignEach es X.env).findIdx? (·.1) = none := by rfl) : PG X (.Tuple es k2 pos) (denF B is (fTup k t)) :=
  PG_weak (pg_tup hc h hn hst) fun v σ H Q ⟨Hk, m, F, sl, S, x, R, R2, r, q⟩ => by
    simp only [fTup] at q
    cases e : tupItems S x with
    | none => rw [e] at q; exact False.elim q
    | some xs =>
      rw [e] at q
      dsimp only at q
      obtain ⟨a, vs, rfl, h1, h2⟩ := tup_items R r e
      by_cases hk : xs.length = k
      · rw [if_pos hk] at q
        exact ⟨a, vs, rfl, hB.K ▸ h1, h2.len.trans hk, Hk, m, F, sl, S, xs, R, R2, h2, q⟩
      · rw [if_neg hk] at q; exact False.elim q
def wipeD (sl : Sl) : List Nat → Sl
  | [] => sl
  | v :: vs => (wipeD sl vs).set v none
theorem RSl.wipe {m : List Addr} {F : Hp} {sl : Sl} {σ : L2.St} (R : RSl B m F sl σ) : ∀ vs : List Nat, RSl B m F (wipeD sl vs) (L2.wipe σ vs)
  | [] => R
  | v :: vs => by
    have R1 := RSl.wipe R vs
    refine ⟨by show ((L2.wipe σ vs).set v none).length = ((wipeD sl vs).set v none).length; rw [List.length_set, List.length_set]; exact R1.len, fun j y e => ?_⟩
    have e : ((wipeD sl vs).set v none)[j]? = some (some y) := e
    show ∃ u, ((L2.wipe σ vs).set v none)[j]? = some (some u) ∧ _
    by_cases hj : v = j
    · subst hj
      by_cases hl : v < (wipeD sl vs).length
      · rw [List.getElem?_set_self hl] at e; cases e
      · rw [List.getElem?_eq_none (by simpa using hl)] at e; cases e
    · rw [List.getElem?_set_ne hj] at e ⊢
      exact R1.at_ j y e
theorem wipe_get {σ : L2.St} {j : Nat} : ∀ {vs : List Nat}, (L2.wipe σ vs)[j]? = if j ∈ vs then (if j < σ.length then some none else none) else σ[j]?
  | [] => by simp [L2.wipe]
  | v :: vs => by
    show ((L2.wipe σ vs).set v none)[j]? = _
    by_cases hj : v = j
    · subst hj
      rw [List.getElem?_set]
      simp [L2.wipe_length]
    · rw [List.getElem?_set_ne hj, wipe_get (vs := vs)]
      have : (j ∈ v :: vs) = (j ∈ vs) := by simp [Ne.symm hj]
      simp only [this]
theorem wipe_same {σ σ2 : L2.St} {vs is : List Nat} (hl : σ2.length = σ.length) (h : ∀ j, j ∉ is → σ2[j]? = (L2.wipe σ vs)[j]?) (hi : ∀ j ∈ is, j ∈ vs) : L2.wipe σ2 vs = L2.wipe σ vs := by
  apply List.ext_getElem?
  intro j
  rw [wipe_get, wipe_get]
  by_cases hj : j ∈ vs
  · rw [if_pos hj, if_pos hj, hl]
  · rw [if_neg hj, if_neg hj, h j fun z => hj (hi j z), wipe_get, if_neg hj]

/-! ### the loop -/
abbrev WF : WX := fun _ _ _ _ => False
def nox {α : Type} (o : Out α) : Out α := match o with
  | .ok a S => .ok a S
  | .exc _ _ => .bad
  | .bad => .bad
def lcG (it : Its') (g : DF) (t : DT) (e : DE) (sl0 : Sl) : Nat → Nat → List Val → Sto → Out (List Val)
  | 0, _, _, _ => .bad
  | k + 1, i, acc, S => match it S with
    | none => .bad
    | some xs => match xs[i]? with
      | none => .ok acc S
      | some x => match g x sl0 S with
        | none => .bad
        | some sl1 => (nox (t sl1 S)).bind fun c S2 => if c = true then ((nox (e sl1 S2)).bind fun y S3 => if acc.length < 16777216 then lcG it g t e sl0 k (i + 1) (acc ++ [y]) S3 else .bad) else lcG it g t e sl0 k (i + 1) acc S2
def lcK (g : DF) (t : DT) (e : DE) (sl0 : Sl) (it : Its') (S1 : Sto) : Out (List Val) := match it S1 with
  | none => .bad
  | some xs => lcG it g t e sl0 (xs.length + 1) 0 [] S1
def gLc (fin : List Val → Sto → Out Val) (f : DI) (g : DF) (t : DT) (e : DE) (vs : List Nat) : DE := fun sl S => (f sl S).bind fun it S1 => (lcK g t e (wipeD sl vs) it S1).bind fin
def finC (ys : List Val) (S : Sto) : Out Val := .ok (.r S.length) (S ++ [Cell.lst ys])
def finD (ys : List Val) (S : Sto) : Out Val := (toDs ys S).bind fun ds S3 => .ok (.d (.lst ds)) S3
/-- a comprehension: the new list is a cell, or data -/
abbrev cLc := gLc finC
abbrev dLc := gLc finD
/-- the list at L, beside all -/
structure Bes (B : Bs) (Hk : Hp) (m : List Addr) (F H : Hp) (L : Addr) (acc : List V) : Prop where
  at_ : H L = some (.lst acc)
  nf : F L = none
  nk : Hk L = none
  nm : L ∉ m
theorem RH.beside {Hk : Hp} {m : List Addr} {F H : Hp} {S : Sto} {L : Addr} {ys : List V} (R : RH B Hk m F S H) (nf : F L = Option.none) (nk : Hk L = Option.none) (nm : L ∉ m) (hl : H L = Option.none ∨ ∃ xs, H L = some (.lst xs)) : RH B Hk m F S (upd H L (.lst ys)) where
  keep := fun b u e => by rw [upd_ne (ne_of_none e nk)]; exact R.keep b u e
  froz := fun b u e => by rw [upd_ne (ne_of_none e nf)]; exact R.froz b u e
  len := R.len
  nd := R.nd
  there := fun a ha => by rw [upd_ne (fun (e : a = L) => nm (e ▸ ha))]; exact R.there a ha
  free := R.free
  nt := R.nt
  nc := fun a ha o e => R.nc a ha o (by rw [upd_ne (fun (z : a = L) => nm (z ▸ ha))] at e; exact e)
  j := B.jp.bes R.j hl
  cell := fun n a c h1 h2 => (R.cell n a c h1 h2).keep ⟨[], by simp⟩ (fun _ _ h => h) (upd_ne (fun e => nm (e ▸ mem_get h1))) fun e => e
theorem RH.more {Hk : Hp} {m : List Addr} {F H : Hp} {S : Sto} {L : Addr} {xs : List V} (R : RH B Hk m F S H) (h : H L = some (.lst xs)) (nm : L ∉ m) : RH B (upd Hk L (.lst xs)) m F S H :=
  ⟨fun b u e => by
    by_cases hb : b = L
    · subst hb; rw [upd_same] at e; rw [h]; exact e
    · rw [upd_ne hb] at e; exact R.keep b u e, R.froz, R.len, R.nd, R.there, fun a ha => by rw [upd_ne (fun (e : a = L) => nm (e ▸ ha))]; exact R.free a ha, R.nt, R.nc, B.jp.more R.j, R.cell⟩
theorem RH.less {Hk Hk' : Hp} {m : List Addr} {F H : Hp} {S : Sto} (R : RH B Hk' m F S H) (h : Same Hk Hk') : RH B Hk m F S H :=
  ⟨h.trans R.keep, R.froz, R.len, R.nd, R.there, fun a ha => h.free (R.free a ha), R.nt, R.nc, B.jp.less R.j h, R.cell⟩
theorem Grow.beside {m0 m : List Addr} {F0 F H0 H : Hp} {L : Addr} {o : HO} (G : Grow m0 F0 H0 m F H) : Grow m0 F0 H0 m F (upd H L o) := ⟨G.mm, G.mf, G.ff, G.fr, fun b h => by
  by_cases hb : b = L
  · subst hb; rw [upd_same]; simp
  · rw [upd_ne hb]; exact G.hh b h⟩
def remH (H : Hp) (L : Addr) : Hp := fun b => if b = L then none else H b
theorem rem_ne {H : Hp} {L b : Addr} (h : b ≠ L) : remH H L b = H b := by unfold remH; rw [if_neg h]
theorem rem_upd {H : Hp} {L : Addr} {o : HO} (h : H L = some o) : upd (remH H L) L o = H := by
  funext b
  by_cases hb : b = L
  · subst hb; rw [upd_same, h]
  · rw [upd_ne hb, rem_ne hb]
theorem RH.rem {Hk : Hp} {m : List Addr} {F H : Hp} {S : Sto} {L : Addr} {acc : List V} (R : RH B Hk m F S H) (b : Bes B Hk m F H L acc) : RH B Hk m F S (remH H L) where
  keep := fun c u e => by rw [rem_ne (ne_of_none e b.nk)]; exact R.keep c u e
  froz := fun c u e => by rw [rem_ne (ne_of_none e b.nf)]; exact R.froz c u e
  len := R.len
  nd := R.nd
  there := fun a ha => by rw [rem_ne (fun (e : a = L) => b.nm (e ▸ ha))]; exact R.there a ha
  free := R.free
  nt := R.nt
  nc := fun a ha o e => R.nc a ha o (by rw [rem_ne (fun (z : a = L) => b.nm (z ▸ ha))] at e; exact e)
  j := B.jp.rem R.j b.at_
  cell := fun n a c h1 h2 => (R.cell n a c h1 h2).keep ⟨[], by simp⟩ (fun _ _ h => h) (rem_ne (fun e => b.nm (e ▸ mem_get h1))) fun e => e
theorem Grow.rem {m0 m : List Addr} {F0 F H0 H : Hp} {L : Addr} (G : Grow m0 F0 H0 m F H) (h0 : H0 L = none) : Grow m0 F0 H0 m F (remH H L) := ⟨G.mm, G.mf, G.ff, G.fr, fun b h => by
  rw [rem_ne (fun e => h (by rw [e]; exact h0))]; exact G.hh b h⟩
def FinOk (B : Bs) (W : WX) (fin : List Val → Sto → Out Val) : Prop := ∀ (Hk : Hp) (σ : L2.St) (m0 m : List Addr) (F0 F H0 H : Hp) (S : Sto) (L : Addr) (acc : List V) (ys : List Val) (Q : VK), RH B Hk m F S H → Bes B Hk m F H L acc → RelXs B m F acc ys → Grow m0 F0 H0 m F H → H0 L = none →
  post B W (relE B) Hk σ m0 F0 H0 (fin ys S) Q → Q (.ref L) H
theorem fin_C : FinOk B W finC := by
  intro Hk σ m0 m F0 F H0 H S L acc ys Q R b r G h0 p
  have hn : remH H L L = none := by unfold remH; rw [if_pos rfl]
  obtain ⟨R2, G2⟩ := (R.rem b).newC (o := .lst acc) (c := .lst ys) hn ⟨b.nf, acc, upd_same, r.mono ⟨[L], rfl⟩ (fun _ _ h => h)⟩
  rw [rem_upd b.at_] at R2 G2
  exact p _ H _ F R2 ((G.rem h0).trans G2) (.r (app_last R.len))
theorem fin_D : FinOk B W finD := by
  intro Hk σ m0 m F0 F H0 H S L acc ys Q R b r G h0 p
  have hn : remH H L L = none := by unfold remH; rw [if_pos rfl]
  obtain ⟨ds, F', S', R', G', h, p⟩ := post_toDs (R.rem b) r (post_grow (G.rem h0) p)
  obtain ⟨R2, G2⟩ := R'.newF (o := .lst acc) hn
  rw [rem_upd b.at_] at R2 G2
  exact p _ H _ _ R2 G2 (.d (.lst (.inl upd_same) (h.mono (same_own (R'.none hn)))))
theorem w_lc {fin : List Val → Sto → Out Val} (fo : FinOk B W fin) {f : DI} {g : DF} {t : DT} {e : DE} {is vs : List Nat} (hi : ∀ j ∈ is, j ∈ vs) {σ : L2.St} {H : Hp} {Q : VK} (h : denE B W (gLc fin f g t e vs) σ H Q) : tLc (denI B W f) (denF B is g) (denT B WF t) (denE B WF e) vs σ H Q := by
  obtain ⟨Hk, m, F, sl, S, R, R2, q⟩ := h
  refine ⟨Hk, m, F, sl, S, R, R2, ?_⟩
  unfold gLc at q
  cases e0 : f sl S with
  | exc c S' => rw [e0] at q; exact q
  | bad => rw [e0] at q; exact q
  | ok it S1 =>
    rw [e0, Out.bind_ok] at q
    intro J m1 F1 H1 R1 G1 ok L hL
    have q := post_grow G1 q
    unfold lcK at q
    cases e1 : it S1 with
    | none => rw [e1] at q; exact False.elim q
    | some xs =>
      rw [e1] at q
      dsimp only at q
      have nm : L ∉ m1 := fun hm => R1.there L hm hL
      refine ⟨fun i k H => ∃ m2 F2 S2 acc ys, RH B Hk m2 F2 S2 H ∧ Grow m1 F1 H1 m2 F2 H ∧ Bes B Hk m2 F2 H L acc ∧ RelXs B m2 F2 acc ys ∧ RSl B m2 F2 sl σ ∧ post B W (relE B) Hk σ m1 F1 H1 ((lcG it g t e (wipeD sl vs) k i ys S2).bind fin) Q,
        ⟨xs.length + 1, m1, F1, S1, [], [], R1.beside (R1.none hL) (R1.keep.free hL) nm (.inl hL), (Grow.refl _ _ _).beside, ⟨upd_same, R1.none hL, R1.keep.free hL, nm⟩, .nil, R2.mono G1, q⟩, ?_⟩
      rintro i k H2 ⟨m2, F2, S2, acc, ys, R3, G2, bs, ra, rs, q2⟩
      cases k with
      | zero => exact False.elim q2
      | succ k =>
        rw [lcG] at q2
        have R3' := R3.more bs.at_ bs.nm
        cases e2 : it S2 with
        | none => rw [e2] at q2; exact False.elim q2
        | some zs =>
          rw [e2] at q2
          dsimp only at q2
          obtain ⟨k1, k2⟩ := ok _ i m2 F2 S2 H2 zs R3' G2 e2
          cases e3 : zs[i]? with
          | none =>
            rw [e3] at q2
            exact .inl ⟨k2 e3, fo Hk σ m1 m2 F1 F2 H1 H2 S2 L acc ys Q R3 bs ra G2 hL q2⟩
          | some x =>
            rw [e3] at q2
            dsimp only at q2
            obtain ⟨go, yld⟩ := k1 x e3
            refine .inr ⟨go, fun H => ∃ m2 F2 S2 acc ys, RH B Hk m2 F2 S2 H ∧ Grow m1 F1 H1 m2 F2 H ∧ Bes B Hk m2 F2 H L acc ∧ RelXs B m2 F2 acc ys ∧ RSl B m2 F2 sl σ ∧ post B W (relE B) Hk σ m1 F1 H1 ((lcG it g t e (wipeD sl vs) k (i + 1) ys S2).bind fin) Q,
              fun H' h => ⟨k, Nat.lt_succ_self k, h⟩, fun v H' y => ?_⟩
            obtain ⟨F3, R5, G3, rx⟩ := yld v H' y
            have hne : H2 L ≠ none := by rw [bs.at_]; simp
            have bes : ∀ {m4 : List Addr} {F4 H4 : Hp} {S4 : Sto}, RH B (upd Hk L (.lst acc)) m4 F4 S4 H4 → Grow m2 F2 H2 m4 F4 H4 → Bes B Hk m4 F4 H4 L acc := fun {m4 F4 H4 S4} R6 G6 => ⟨R6.keep _ _ upd_same, G6.fr L bs.nf hne bs.nm, bs.nk, fun z => (G6.mf L z).elim bs.nm fun z => hne z⟩
            have hk : Same Hk (upd Hk L (.lst acc)) := same_own bs.nk
            refine ⟨_, m2, F3, wipeD sl vs, S2, x, R5, (rs.mono G3).wipe vs, rx, ?_⟩
            cases e4 : g x (wipeD sl vs) S2 with
            | none => rw [e4] at q2; exact False.elim q2
            | some sl3 =>
              rw [e4] at q2
              dsimp only at q2 ⊢
              intro σ4 R7 ln fr
              have hln : σ4.length = σ.length := ln.trans (L2.wipe_length σ vs)
              refine ⟨wipe_same hln fr hi, _, m2, F3, sl3, S2, R5, R7, ?_⟩
              cases e5 : t sl3 S2 with
              | bad => rw [e5] at q2; exact False.elim q2
              | exc c S5 => rw [e5] at q2; exact False.elim q2
              | ok c S5 =>
                rw [e5] at q2
                simp only [nox, Out.bind_ok] at q2
                intro b5 H5 m5 F5 R8 G5 r5
                cases r5
                have G35 := G3.trans G5
                cases c with
                | false =>
                  rw [if_neg (by simp)] at q2 ⊢
                  exact ⟨m5, F5, S5, acc, ys, R8.less hk, G2.trans G35, bes R8 G35, ra.grow G35, rs.mono G35, q2⟩
                | true =>
                  rw [if_pos rfl] at q2 ⊢
                  refine ⟨_, m5, F5, sl3, S5, R8, R7.mono G5, ?_⟩
                  cases e6 : e sl3 S5 with
                  | bad => rw [e6] at q2; exact False.elim q2
                  | exc c S6 => rw [e6] at q2; exact False.elim q2
                  | ok y S6 =>
                    rw [e6] at q2
                    simp only [Out.bind_ok] at q2
                    intro v6 H6 m6 F6 R9 G6 r6
                    have G36 := G35.trans G6
                    have b6 := bes R9 G36
                    split at q2
                    · rename_i hz
                      refine ⟨acc, b6.at_, by rw [ra.len, szl]; exact hz, m6, F6, S6, acc ++ [v6], ys ++ [y], (R9.less hk).beside b6.nf b6.nk b6.nm (.inr ⟨_, b6.at_⟩), (G2.trans G36).beside, ⟨upd_same, b6.nf, b6.nk, b6.nm⟩, (ra.grow G36).append (.cons r6 .nil), rs.mono G36, q2⟩
                    · exact False.elim q2
end
end Dn

set_option Elab.async false
set_option linter.all false
set_option maxRecDepth 100000
set_option maxHeartbeats 2000000
/-! Dn: what is walked; comprehensions as expressions. -/
namespace Dn
open PySem L2 PyProof.Rows

section
variable {X : Cx} {B : Bs} {W : WX}
def tYesD : DT := fun _ S => .ok true S
theorem PTs_weak {e : List Expr} {t t' : TT} (h : PTs X e t) (w : ∀ σ H Q, t' σ H Q → t σ H Q) : PTs X e t' := ⟨fun pins s σ H Q I q => h.run pins s σ H Q I (w σ H Q q)⟩
theorem dts_nil : PTs X [] (denT B W tYesD) := PTs_weak pts_nil fun σ H Q ⟨Hk, m, F, sl, S, R, R2, q⟩ => q true H m F R (Grow.refl _ _ _) rfl
theorem dts_one {c : Expr} {t : DT} (h : PT X c (denT B W t)) : PTs X [c] (denT B W t) := pts_one h
theorem BX.blk {s : Shared} {H : Hp} {scope : Scope} {cenv : Env} {fp : List Addr} (h : BX B X) : BX B (X.blk s H scope cenv fp) := ⟨h.P, h.w, h.K, h.mg⟩
section
variable {elt tg iter : Expr} {ifs : List Expr} {scope : Scope} {pos : Pos} {f : DI} {g : DF} {t : DT} {e : DE} {is : List Nat}
theorem de_lc {fin : List Val → Sto → Out Val} (fo : FinOk B W fin) (own : List (Str × Nat)) (hc : X.calm = true) (hN : X.N.Nodup) (hi : PI X tg iter (denI B W f)) (ok : BlkOk X.N X.env.scope scope own)
    (hg : ∀ (s : Shared) (H : Hp) (C : Addr) (cl : List (Str × Addr)) (fp : List Addr), PG (X.blk s H scope (compEnvC scope cl C X.env) fp) tg (denF B is g)) (ht : ∀ (s : Shared) (H : Hp) (C : Addr) (cl : List (Str × Addr)) (fp : List Addr), PTs (X.blk s H scope (compEnvC scope cl C X.env) fp) ifs (denT B WF t))
    (he : ∀ (s : Shared) (H : Hp) (C : Addr) (cl : List (Str × Addr)) (fp : List Addr), PE (X.blk s H scope (compEnvC scope cl C X.env) fp) elt (denE B WF e)) (his : ∀ j ∈ is, j ∈ own.map (·.2) := by decide) (hs : ∀ x, foldedSetIterable iter X.env x = pure x := by intro _; rfl) :
    PE X (.ListComp elt [⟨tg, iter, ifs, 0⟩] scope pos) (denE B W (gLc fin f g t e (own.map (·.2)))) := PE_weak (pe_lc hc hN hi ok hg ht he hs) fun _ _ _ q => w_lc fo his q
theorem ds_setLc (i : Nat) {y : Str} {py spos : Pos} {fin : List Val → Sto → Out Val} (fo : FinOk B W fin) (own : List (Str × Nat)) (hc : X.calm = true) (hN : X.N.Nodup) (hi : PI X tg iter (denI B W f)) (ok : BlkOk X.N X.env.scope scope own)
    (hg : ∀ (s : Shared) (H : Hp) (C : Addr) (cl : List (Str × Addr)) (fp : List Addr), PG (X.blk s H scope (compEnvC scope cl C X.env) fp) tg (denF B is g)) (ht : ∀ (s : Shared) (H : Hp) (C : Addr) (cl : List (Str × Addr)) (fp : List Addr), PTs (X.blk s H scope (compEnvC scope cl C X.env) fp) ifs (denT B WF t))
    (he : ∀ (s : Shared) (H : Hp) (C : Addr) (cl : List (Str × Addr)) (fp : List Addr), PE (X.blk s H scope (compEnvC scope cl C X.env) fp) elt (denE B WF e))
    (hsw : swapsWith (.ListComp elt [⟨tg, iter, ifs, 0⟩] scope pos) (some (.Name y py)) spos.line X.env = pure true) (hy : X.N[i]? = some y := by rfl) (hyl : X.env.scope.names.lookup y = some .local := by rfl) (his : ∀ j ∈ is, j ∈ own.map (·.2) := by decide) (hs : ∀ x, foldedSetIterable iter X.env x = pure x := by intro _; rfl) :
    PS X (.Assign [.Name y py] (.ListComp elt [⟨tg, iter, ifs, 0⟩] scope pos) spos) (denS B W (sSet i (gLc fin f g t e (own.map (·.2))))) :=
  PS_weak (ps_setLc hc hN hy hyl hsw hi ok hg ht he hs) fun _ _ _ q => w_lc fo his (w_set q)
end

/-! ### any sequence -/
def iAny (K : PySem.W.Frag) (te : TE) : TI := fun σ H R => te σ H fun x H1 => (∃ a, x = .ref a ∧ (∃ xs, SqL K H1 a xs) ∧ R (Itl K a) H1) ∨ (∃ a, x = .ref a ∧ (∃ xs, SqT K H1 a xs) ∧ R (Itt K a) H1) ∨ ∃ z, x = .str z ∧ R (Its z) H1
theorem pi_any {tg e : Expr} {te : TE} (he : PE X e te) : PI X tg e (iAny X.K te) := by
  refine ⟨fun pins s σ H R I h => thn (he.run pins s σ H _ I h) fun v s1 ⟨x, H1, J, r1, q1⟩ => ?_⟩
  rcases q1 with ⟨a, rfl, ⟨xs, hq⟩, q⟩ | ⟨a, rfl, ⟨xs, hq⟩, q⟩ | ⟨z, rfl, q⟩
  · cases r1
    obtain ⟨its, rv, p, hz⟩ := J.list hq
    refine wpAny_pyIter_list p.isList ⟨s1.heap.objs.size, [s1.heap.objs.size], _, _, H1, rfl, J.kept (t' := s1.toks) fun b o e => Heap.get?_push_of_some _ e, turn_list a _, ⟨_, Heap.get?_push_size _ rfl, rfl, rfl⟩, fun b hb => ?_, q⟩
    have e : b = s1.heap.objs.size := by simpa using hb
    rw [e]
    exact J.fpOk (Nat.le_refl _) (J.hok.fresh (Nat.le_refl _))
  · cases r1
    obtain ⟨its, rv, p, hz⟩ := J.tuple hq
    refine wpAny_pyIter_tuple (show s1.heap.IsTuple a its.toArray from p) ⟨s1.heap.objs.size, [s1.heap.objs.size], _, _, H1, rfl, J.kept (t' := s1.toks) fun b o e => Heap.get?_push_of_some _ e, turn_tuple a _, ⟨_, Heap.get?_push_size _ rfl, rfl, rfl⟩, fun b hb => ?_, q⟩
    have e : b = s1.heap.objs.size := by simpa using hb
    rw [e]
    exact J.fpOk (Nat.le_refl _) (J.hok.fresh (Nat.le_refl _))
  · obtain ⟨t, rfl⟩ := r1
    cases hh : z.cps.all (· < 128)
    · exact wpAny_pyIter_wide hh (pi_one (tk := s1.toks) J _ (turn_str _ z t "str_iterator" (.inr rfl)) ⟨_, Heap.get?_push_size _ rfl, rfl, rfl⟩ q)
    · exact wpAny_pyIter_ascii hh (pi_one (tk := s1.toks) J _ (turn_str _ z t "str_ascii_iterator" (.inl rfl)) ⟨_, Heap.get?_push_size _ rfl, rfl, rfl⟩ q)
def strItems : Val → Option (List Val)
  | .d (.str s) => some (s.map fun c => .d (.str [c]))
  | _ => none
/-- where it is taken from -/
def srcOf (S : Sto) (x : Val) : Option Its' := match lstItems S x with
  | some _ => some fun S' => lstItems S' x
  | none => match tupItems S x with
    | some _ => some fun S' => tupItems S' x
    | none => match strItems x with
      | some l => some fun _ => some l
      | none => none
def iSeq (f : DE) : DI := fun sl S => (f sl S).bind fun x S1 => Out.of (srcOf S1 x) S1
theorem ok_lst {m1 : List Addr} {F1 H1 : Hp} {a : Addr} {x : Val} (hB : BX B X) (r : RelX B m1 F1 (.ref a) x) : ItOk B m1 F1 H1 (Itl X.K a) fun S => lstItems S x := by
  intro Hk i m F S H xs R G e
  obtain ⟨b, vs, e1, h1, h2⟩ := lst_items R (r.grow G) e
  cases e1
  refine ⟨fun y hy => ?_, fun hy => ?_⟩
  · obtain ⟨v, hv, rv⟩ := h2.get hy
    refine ⟨⟨vs, v, .inl h1, hv⟩, fun u H' ⟨e2, e3⟩ => ?_⟩
    subst e2
    have := e3 vs (.inl h1)
    rw [hv] at this
    cases this
    exact ⟨F, R, Grow.refl _ _ _, rv⟩
  · exact ⟨vs, .inl h1, by rw [h2.len]; simpa using hy⟩
theorem ok_tup {m1 : List Addr} {F1 H1 : Hp} {a : Addr} {x : Val} (hB : BX B X) (r : RelX B m1 F1 (.ref a) x) : ItOk B m1 F1 H1 (Itt X.K a) fun S => tupItems S x := by
  intro Hk i m F S H xs R G e
  obtain ⟨b, vs, e1, h1, h2⟩ := tup_items R (r.grow G) e
  cases e1
  have h1 : SqT X.K H a vs := hB.K ▸ h1
  refine ⟨fun y hy => ?_, fun hy => ?_⟩
  · obtain ⟨v, hv, rv⟩ := h2.get hy
    refine ⟨⟨vs, v, h1, hv⟩, fun u H' ⟨e2, e3⟩ => ?_⟩
    subst e2
    have := e3 vs h1
    rw [hv] at this
    cases this
    exact ⟨F, R, Grow.refl _ _ _, rv⟩
  · exact ⟨vs, h1, by rw [h2.len]; simpa using hy⟩
theorem ok_str {m1 : List Addr} {F1 H1 : Hp} {s : List Nat} : ItOk B m1 F1 H1 (Its ⟨s.toArray⟩) fun _ => some (s.map fun c => Val.d (.str [c])) := by
  intro Hk i m F S H xs R G e
  cases e
  refine ⟨fun y hy => ?_, fun hy => ?_⟩
  · rw [List.getElem?_map, Option.map_eq_some_iff] at hy
    obtain ⟨c, hc, rfl⟩ := hy
    have hc' : (⟨s.toArray⟩ : Str).cps[i]? = some c := by simpa using hc
    refine ⟨?_, fun u H' h => ?_⟩
    · have := (List.getElem?_eq_some_iff.mp hc).1
      first | exact this | exact ⟨c, hc'⟩ | simpa using this
    · obtain ⟨e2, c', e3, e4⟩ := h
      subst e2
      rw [hc'] at e3; cases e3
      subst e4
      exact ⟨F, R, Grow.refl _ _ _, .d (.str [c])⟩
  · have : s.length ≤ i := by simpa using hy
    first | exact this | simpa [Its] using this
theorem di_seq {tg e : Expr} {f : DE} (hB : BX B X) (he : PE X e (denE B W f)) : PI X tg e (denI B W (iSeq f)) :=
  PI_weak (pi_any he) fun σ H R ⟨Hk, m, F, sl, S, R1, R2, q⟩ => by
    refine ⟨Hk, m, F, sl, S, R1, R2, ?_⟩
    unfold iSeq at q
    cases e0 : f sl S with
    | exc c S' => rw [e0] at q; exact q
    | bad => rw [e0] at q; exact q
    | ok x S1 =>
      rw [e0, Out.bind_ok] at q
      intro v H' m' F' R3 G r
      unfold srcOf at q
      cases e1 : lstItems S1 x with
      | some xs =>
        rw [e1] at q
        obtain ⟨a, vs, rfl, h1, h2⟩ := lst_items R3 r e1
        exact .inl ⟨a, rfl, ⟨vs, .inl h1⟩, q _ m' F' H' R3 G (ok_lst hB r)⟩
      | none =>
        rw [e1] at q
        cases e2 : tupItems S1 x with
        | some xs =>
          rw [e2] at q
          obtain ⟨a, vs, rfl, h1, h2⟩ := tup_items R3 r e2
          exact .inr (.inl ⟨a, rfl, ⟨vs, hB.K ▸ h1⟩, q _ m' F' H' R3 G (ok_tup hB r)⟩)
        | none =>
          rw [e2] at q
          cases x with
          | r n => exact False.elim q
          | d d =>
            cases d with
            | str s =>
              cases r with
              | d r =>
                cases r
                exact .inr (.inr ⟨_, rfl, q _ m' F' H' R3 G ok_str⟩)
            | _ => exact False.elim q
end
end Dn

set_option Elab.async false
set_option linter.all false
set_option maxRecDepth 100000
set_option maxHeartbeats 2000000
/-! Dn: ranges, enumerate over tuples and texts. -/
namespace Dn
open PySem L2 PyProof.Rows

theorem enum_item {X : Cx} {pins : List (Addr × Obj)} {s : Shared} {σ : L2.St} {H : Hp} {E : Value → Shared → Prop} {e it : Addr} {fpD : List Addr} {n i : Nat} {P : Nat → Value → Prop} {St : Nat → Heap → Prop} {old : Value} {Y : V → Prop} {elts : List Expr} {kk : Nat} {tpos : Pos} (tnS : Nat → Heap → Prop)
    (D : Draws X.prog X.w X.A.in1 it fpD n P St) (he : IsEnum s.heap e it ((i : Nat) : Int) old) (st : St i s.heap) (hi : i < n) (hne : e ≠ it) (hef : e ∉ fpD) (I : Inv X pins σ H s) (hf : ∀ b ∈ [e, it], FpOk X pins H b) (hil : it < s.heap.objs.size) (hP : ∀ x, P i x → ∃ v, RelV v x ∧ Y v)
    (hS : ∀ h', St (i + 1) h' → tnS (i + 1) h') (hSk : ∀ h h', tnS (i + 1) h → (∀ o, h.get? it = some o → h'.get? it = some o) → tnS (i + 1) h') :
    wpAny (model X.prog X.w) X.A (pyNext (.ref e)) (fun r s1 => ∃ u, r = some u ∧ wpAny (model X.prog X.w) X.A (letOwnedTupleGo (.Tuple elts kk tpos) (.ref e) u) (fun _ s2 => ∃ x H', Inv X pins σ H' s2 ∧ RelV x u ∧ (∃ T y, x = .ref T ∧ H T = none ∧ H' = upd H T (.tup [.int (i : Nat), y]) ∧ Y y) ∧
      ((∃ old, IsEnum s2.heap e it ((i + 1 : Nat) : Int) old) ∧ tnS (i + 1) s2.heap ∧ e ≠ it) ∧ ∀ b ∈ [e, it], H' b = none) E s1) E s := by
  have hel : e < s.heap.objs.size := Heap.lt_size he
  refine wpAny_pyNext_enum_itemC D he st hi hne hef fun u h' tk pu ho st' hT hsz hk => ⟨_, rfl, wpAny_letOwnedTupleGo_enum (s := { s with heap := h', toks := tk + 1 }) ho fun h2 he2 sb => ?_⟩
  obtain ⟨y, ry, yy⟩ := hP u pu
  have hT2 : h2.get? s.heap.objs.size = some { cls := .type "tuple", data := .seq #[.int i tk, u] } := (sb.2 _ (Nat.ne_of_gt hel)).trans hT
  have new : ObjOk X.prog X.w (upd H s.heap.objs.size (.tup [.int (i : Nat), y])) h2 s.heap.objs.size (.tup [.int (i : Nat), y]) := ⟨by show 2 ≤ sizeLine; decide, [.int i tk, u], .cons ⟨_, rfl⟩ (.cons ry .nil), ⟨_, hT2, rfl, _, rfl⟩⟩
  have J : Inv X pins σ (upd H s.heap.objs.size (.tup [.int (i : Nat), y])) { s with heap := h2, toks := tk + 1 } :=
    I.turnedNew (ch := [e, it]) (fun b ob hb q => (sb.2 b (fun z => hb (by simp [z]))).trans (hk b ob (fun z => hb (by simp [z])) (fun z => hb (by simp [z])) q)) hf (Nat.le_refl _) new
  refine ⟨.ref s.heap.objs.size, _, J, rfl, ⟨_, y, rfl, I.hok.fresh (Nat.le_refl _), rfl, yy⟩, ⟨⟨u, ?_⟩, hSk h' h2 (hS h' st') fun o q => (sb.2 it (Ne.symm hne)).trans q, hne⟩, fun b hb => ?_⟩
  · have e1 : ((i + 1 : Nat) : Int) = (i : Int) + 1 := by omega
    rw [e1]; exact he2
  · have hb2 : b < s.heap.objs.size := by
      rcases List.mem_cons.mp hb with z | z
      · rw [z]; exact hel
      · rw [List.mem_singleton.mp z]; exact hil
    rw [upd_ne (Nat.ne_of_lt hb2)]
    exact (hf b hb).1
/-- pairs of place and item -/
def IteT (K : PySem.W.Frag) (a : Addr) : It := ⟨fun i H => ∃ xs x, SqT K H a xs ∧ xs[i]? = some x, fun i H v H' => ∃ T y, v = .ref T ∧ H T = none ∧ H' = upd H T (.tup [.int (i : Nat), y]) ∧ ∀ xs, SqT K H a xs → xs[i]? = some y, fun i H => ∃ xs, SqT K H a xs ∧ xs.length ≤ i⟩
def IteS (x : Str) : It := ⟨fun i _ => i < x.cps.size, fun i H v H' => ∃ T y, v = .ref T ∧ H T = none ∧ H' = upd H T (.tup [.int (i : Nat), y]) ∧ ∃ c, x.cps[i]? = some c ∧ y = .str ⟨#[c]⟩, fun i _ => x.cps.size ≤ i⟩
theorem enum_end {prog : Program} {w : World} {A : Around} {s : Shared} {E : Value → Shared → Prop} {e it : Addr} {i : Int} {old : Value} {Q : Option Value → Shared → Prop} (he : IsEnum s.heap e it i old)
    (hN : ∀ (Q : Value → Shared → Prop) (E : Value → Shared → Prop), (∀ h' x, Heap.ExtBut it s.heap h' → (∃ o, h'.get? x = some o ∧ o.cls = .type "StopIteration") → E (.ref x) { s with heap := h' }) → wpAny (model prog w) A.in1 (Builtin.SmallTypes.nextOf (.ref it)) Q E s)
    (hQ : ∀ h', Heap.ExtBut it s.heap h' → Q none { s with heap := h' }) : wpAny (model prog w) A (pyNext (.ref e)) Q E s := by
  unfold pyNext
  refine wpAny_bind (wpAny_attempt (wpAny_callSpecial?_slot (name := Str.ofString "__next__") ⟨_, he, rfl⟩ F.slot_enumerate_next (wpAny_call_entry F.slot_enumerate_next ⟨_, he, rfl⟩ F.entry_enumerate_next ?_ (F.args_enumerate_next_1 _))))
  show wpAny _ _ (field (.ref e) 2 >>= _) _ _ _
  refine wpAny_bind (wpAny_field he rfl (x := .ref it) rfl (wpAny_bind (hN _ _ fun h' x hx ⟨o, ho, hc⟩ => ?_)))
  exact wpAny_bind (wpAny_isInstance (T := "StopIteration") (b := true) ⟨o, ho, hc⟩ isSubtype_stop (wpAny_pure (hQ _ hx)))
theorem turn_enumT {P : Program} {w : World} {K : PySem.W.Frag} {elts : List Expr} {kk : Nat} {tpos : Pos} (a e it : Addr) :
    Turn P w K (.Tuple elts kk tpos) (IteT K a) [e, it] e (fun i h => (∃ old, IsEnum h e it ((i : Nat) : Int) old) ∧ (h.IsTupleIter it a i) ∧ e ≠ it) where
  mem := by simp
  obj := fun i h ⟨⟨old, he⟩, ⟨o, ho, hc, hd⟩, _⟩ b hb => by
    rcases List.mem_cons.mp hb with z | z
    · rw [z]; exact ⟨_, he, fun v q => nomatch q⟩
    · rw [List.mem_singleton.mp z]; exact ⟨o, ho, fun v q => by rw [hd] at q; cases q⟩
  keep := fun i h h' ⟨⟨old, he⟩, hi, hne⟩ k => ⟨⟨old, k e (by simp) _ he⟩, hi.at fun o q => k it (by simp) o q, hne⟩
  item := by
    intro X hP hw hK hc i pins s σ H E I hf ⟨⟨old, he⟩, hit, hne⟩ ⟨xs, x, hq, hx⟩
    subst hP hw hK
    obtain ⟨its, rv, p, hz⟩ := I.tuple hq
    obtain ⟨u, hu, ru⟩ := rv.get hx
    have hai : a ≠ it := fun z => by
      obtain ⟨o, ho, hc, _⟩ := hit
      obtain ⟨o2, ho2, hc2, _⟩ := (show s.heap.IsTuple a its.toArray from p)
      rw [z, ho] at ho2; cases ho2
      rw [hc] at hc2; simp at hc2
    have hea : e ∉ [it, a] := fun z => by
      rcases List.mem_cons.mp z with z | z
      · exact hne z
      · have z := List.mem_singleton.mp z
        obtain ⟨o2, ho2, hc2, _⟩ := (show s.heap.IsTuple a its.toArray from p)
        have he2 : s.heap.get? e = _ := he
        rw [z, ho2] at he2; cases he2
        simp at hc2
    refine thn (enum_item (Y := fun y => ∀ ys, SqT X.K H a ys → ys[i]? = some y) (fun i h => h.IsTupleIter it a i) (Draws.tuple (A := X.A.in1) (I.ok.hd hc) it a hai its.toArray) he ⟨hit, p⟩ (by
      have := (List.getElem?_eq_some_iff.mp hx).1; have := rv.length; simp; omega) hne hea I hf (by obtain ⟨_, q, _⟩ := hit; exact Heap.lt_size q) (fun z hz => ?_) (fun h' z => z.1) fun h h' z k => z.at fun o q => k o q) fun r s1 ⟨u, hr, h⟩ => ⟨u, hr, h⟩
    have hu2 : its[i]? = some u := hu
    have hz2 : its[i]? = some z := by simpa using hz
    rw [hu2] at hz2; cases hz2
    exact ⟨x, ru, fun ys hy => by rw [I.tuple_inj hy hq]; exact hx⟩
  done := by
    intro X hP hw hK hc i pins s σ H E I hf ⟨⟨old, he⟩, hit, hne⟩ ⟨xs, hq, hx⟩
    subst hP hw hK
    obtain ⟨its, rv, p, hz⟩ := I.tuple hq
    obtain ⟨f0, f1, f2, f3, f4, f5⟩ := hf it (by simp)
    have hl := rv.length
    exact enum_end he (fun Q E h => wpAny_nextOf_tuple_end (A := X.A.in1) (I.ok.hd hc) hit p (by simp; omega) h) fun h' eb => ⟨rfl, I.turned (t' := s.toks) (fun b o hb q => eb b o hb q) f0 f1 f3 f4 f5⟩
  self := fun A i s Q E ⟨⟨_, he⟩, _⟩ h => wpAny_pyIter_enum he h
theorem turn_enumS {P : Program} {w : World} {K : PySem.W.Frag} {elts : List Expr} {kk : Nat} {tpos : Pos} (x : Str) (t : Tok) (e it : Addr) :
    Turn P w K (.Tuple elts kk tpos) (IteS x) [e, it] e (fun i h => (∃ old, IsEnum h e it ((i : Nat) : Int) old) ∧ h.IsStrIter it (strIterType x) x t i ∧ e ≠ it) where
  mem := by simp
  obj := fun i h ⟨⟨old, he⟩, ⟨o, ho, hc, hd⟩, _⟩ b hb => by
    rcases List.mem_cons.mp hb with z | z
    · rw [z]; exact ⟨_, he, fun v q => nomatch q⟩
    · rw [List.mem_singleton.mp z]; exact ⟨o, ho, fun v q => by rw [hd] at q; cases q⟩
  keep := fun i h h' ⟨⟨old, he⟩, hi, hne⟩ k => ⟨⟨old, k e (by simp) _ he⟩, (let ⟨o, ho, r⟩ := hi; ⟨o, k it (by simp) o ho, r⟩), hne⟩
  item := by
    intro X hP hw hK hc i pins s σ H E I hf ⟨⟨old, he⟩, hit, hne⟩ hi
    subst hP hw hK
    refine thn (enum_item (Y := fun y => ∃ c, x.cps[i]? = some c ∧ y = .str ⟨#[c]⟩) (fun i h => h.IsStrIter it (strIterType x) x t i) (Draws.text (A := X.A.in1) (I.ok.hd hc) it x t) he hit hi hne (by simp [hne]) I hf (by obtain ⟨_, q, _⟩ := hit; exact Heap.lt_size q) (fun z hz => ?_) (fun h' z => z)
      fun h h' z k => let ⟨o, ho, r⟩ := z; ⟨o, k o ho, r⟩) fun r s1 ⟨u, hr, h⟩ => ⟨u, hr, h⟩
    obtain ⟨c, u, hcx, rfl⟩ := hz
    exact ⟨.str ⟨#[c]⟩, ⟨u, rfl⟩, c, hcx, rfl⟩
  done := by
    intro X hP hw hK hc i pins s σ H E I hf ⟨⟨old, he⟩, hit, hne⟩ hi
    subst hP hw hK
    obtain ⟨f0, f1, f2, f3, f4, f5⟩ := hf it (by simp)
    have hx : x.cps[i]? = none := Array.getElem?_eq_none hi
    refine enum_end he (fun Q E h => ?_) fun h' eb => ⟨rfl, I.turned (t' := s.toks) (fun b o hb q => eb b o hb q) f0 f1 f3 f4 f5⟩
    cases hh : x.cps.all (· < 128)
    · simp only [strIterType, hh, Bool.false_eq_true, if_false] at hit
      exact wpAny_nextOf_wide_end (A := X.A.in1) (I.ok.hd hc) hit hx h
    · simp only [strIterType, hh, if_true] at hit
      exact wpAny_nextOf_ascii_end (A := X.A.in1) (I.ok.hd hc) hit hx h
  self := fun A i s Q E ⟨⟨_, he⟩, _⟩ h => wpAny_pyIter_enum he h
set_option maxHeartbeats 1000000 in
theorem meets_enum1 {v : Value} {o : Obj} {H : Heap → Prop} (B : Begins v o H) : Meets (Builtin.«enumerate.__new__» ⟨[.type "enumerate", v], []⟩) (fun _ R s => H s.heap ∧ R (.ok (.ret (.ref (s.heap.push o).objs.size))) { s with heap := (s.heap.push o).push { cls := .type "enumerate", data := .fields #[.none, .bool false, .ref s.heap.objs.size, rawInt 0, .none, .none] } }) :=
  .of_wp fun prog w A R s h => by
    obtain ⟨hp, g, d, tk, os⟩ := s
    obtain ⟨h1, h⟩ := h
    have hsub := sub_enumerate
    have go : ∀ {A' : Around} {E : Value → Shared → Prop} {Q : Value → Shared → Prop}, Q (.ref hp.objs.size) ⟨hp.push o, g, d, tk, os⟩ → wpAny (model prog w) A' (pyIter v) Q E ⟨hp, g, d, tk, os⟩ := fun q => B.iter prog w _ _ ⟨hp, g, d, tk, os⟩ _ h1 q
    wp_walk
    refine wpAny_stack_any fun st => wpAny_pure ?_
    split
    · rename_i c _ _ _ _ _
      cases (c == Value.type "enumerate") <;> (wp_walk using go; exact ⟨_, rfl, h⟩)
    · wp_walk using go
      exact ⟨_, rfl, h⟩
theorem enum1 {prog : Program} {w : World} {A : Around} {E : Value → Shared → Prop} {s : Shared} {v : Value} {o : Obj} {H : Heap → Prop} {Q : Value → Shared → Prop} (B : Begins v o H) (h1 : H s.heap)
    (h : ∀ h', IsEnum h' (s.heap.objs.size + 1) s.heap.objs.size 0 .none → h'.get? s.heap.objs.size = some o → (∀ b o, s.heap.get? b = some o → h'.get? b = some o) → Q (.ref (s.heap.objs.size + 1)) { s with heap := h' }) : wpAny (model prog w) A (call (.type "enumerate") [v]) Q E s := by
  refine callType_new F.called_enumerate (by decide) (F.typeCall_enumerate_1 _) (F.newCall_enumerate_1 _) (fun obj => F.args_object_init_2 obj _) F.entry_enumerate_new (meets_enum1 B) ⟨h1, ?_⟩
  have hz : (s.heap.push o).objs.size = s.heap.objs.size + 1 := Heap.size_push ..
  rw [hz]
  have he : IsEnum ((s.heap.push o).push { cls := .type "enumerate", data := .fields #[.none, .bool false, .ref s.heap.objs.size, rawInt 0, .none, .none] }) (s.heap.objs.size + 1) s.heap.objs.size 0 .none := by
    have := Heap.get?_push_size (s.heap.push o) (o := { cls := .type "enumerate", data := .fields #[.none, .bool false, .ref s.heap.objs.size, rawInt 0, .none, .none] }) rfl
    rw [hz] at this; exact this
  exact ⟨⟨_, he, rfl⟩, h _ he (Heap.get?_push_of_some _ (Heap.get?_push_size _ B.free)) fun b o x => Heap.get?_push_of_some _ (Heap.get?_push_of_some _ x)⟩
section
variable {X : Cx} {B : Bs} {W : WX}
def iEnA (K : PySem.W.Frag) (ta : TA) : TI := fun σ H R => ta σ H fun vs H1 => (∃ a xs, vs = [.ref a] ∧ SqL K H1 a xs ∧ R (Ite K a) H1) ∨ (∃ a xs, vs = [.ref a] ∧ SqT K H1 a xs ∧ R (IteT K a) H1) ∨ ∃ z, vs = [.str z] ∧ R (IteS z) H1
theorem two_fp {pins : List (Addr × Obj)} {σ : L2.St} {H : Hp} {s : Shared} (I : Inv X pins σ H s) : ∀ b ∈ [s.heap.objs.size + 1, s.heap.objs.size], FpOk X pins H b := fun b hb => by
  have hle : s.heap.objs.size ≤ b := by
    rcases List.mem_cons.mp hb with z | z
    · omega
    · have := List.mem_singleton.mp z; omega
  exact I.fpOk hle (I.hok.fresh hle)
theorem pi_enA {e : Expr} {ta : TA} {p pos tpos : Pos} {elts : List Expr} {kk : Nat} (hg : Gl X "enumerate") (hm : X.mg "enumerate" = none) (ha : PA X [e] ta) (hs : starEach [e] X.env = [(false, eval e X.env)] := by rfl) : PI X (.Tuple elts kk tpos) (.Call (.Name "enumerate" p) [e] [] pos) (iEnA X.K ta) := by
  refine ⟨fun pins s σ H R I h => Call_ (ld_blt I hg hm boot_enumerate (PyProof.Rows.callWith_type1 (thn (ha.run pos pins s σ H _ I h) fun us s1 ⟨vs, H1, J, r1, q1⟩ => ?_) hs rfl))⟩
  rcases q1 with ⟨a, xs, rfl, hq, q⟩ | ⟨a, xs, rfl, hq, q⟩ | ⟨z, rfl, q⟩
  · obtain ⟨u, rfl, ru⟩ := r1.one
    cases ru
    obtain ⟨its, rv, p2, hz⟩ := J.list hq
    exact enum1 (begins_list a its.toArray) p2.isList fun h' he hit hk => wpAny_pyIter_enum he ⟨s1.heap.objs.size + 1, _, _, _, H1, rfl, J.kept (t' := s1.toks) hk, turn_enum a (s1.heap.objs.size + 1) s1.heap.objs.size, ⟨⟨.none, he⟩, ⟨_, hit, rfl, rfl⟩, Nat.succ_ne_self _⟩, two_fp J, q⟩
  · obtain ⟨u, rfl, ru⟩ := r1.one
    cases ru
    obtain ⟨its, rv, p2, hz⟩ := J.tuple hq
    exact enum1 (begins_tuple a its.toArray) p2 fun h' he hit hk => wpAny_pyIter_enum he ⟨s1.heap.objs.size + 1, _, _, _, H1, rfl, J.kept (t' := s1.toks) hk, turn_enumT a (s1.heap.objs.size + 1) s1.heap.objs.size, ⟨⟨.none, he⟩, ⟨_, hit, rfl, rfl⟩, Nat.succ_ne_self _⟩, two_fp J, q⟩
  · obtain ⟨u, rfl, ru⟩ := r1.one
    obtain ⟨t, rfl⟩ := ru
    exact enum1 (begins_text z t) trivial fun h' he hit hk => wpAny_pyIter_enum he ⟨s1.heap.objs.size + 1, _, _, _, H1, rfl, J.kept (t' := s1.toks) hk, turn_enumS z t (s1.heap.objs.size + 1) s1.heap.objs.size, ⟨⟨.none, he⟩, ⟨_, hit, rfl, rfl⟩, Nat.succ_ne_self _⟩, two_fp J, q⟩

/-! ### the pairs, as data -/
def enD : Nat → List D → List Val
  | _, [] => []
  | i, x :: r => .d (.tup [.int (i : Nat), x]) :: enD (i + 1) r
theorem enD_get : ∀ (xs : List D) (k i : Nat), (enD k xs)[i]? = (xs[i]?).map fun x => Val.d (.tup [.int ((k + i : Nat) : Int), x])
  | [], _, _ => rfl
  | x :: r, k, 0 => by simp [enD]
  | x :: r, k, i + 1 => by
    rw [enD, List.getElem?_cons_succ, List.getElem?_cons_succ, enD_get r (k + 1) i]
    have : k + 1 + i = k + (i + 1) := by omega
    rw [this]
def seqItemsD : D → Option (List D)
  | .lst xs => some xs
  | .tup xs => some xs
  | .str s => some (s.map fun c => .str [c])
  | _ => none
/-- enumerate(x), x kept as data -/
def iEnum' (f : DE) : DI := fun sl S => (f sl S).bind fun x S1 => (toD x S1).bind fun d S2 => match seqItemsD d with
  | some xs => .ok (fun _ => some (enD 0 xs)) S2
  | none => .bad
theorem en_ok {m1 : List Addr} {F1 H1 : Hp} {J : It} {xs : List D} (h : ∀ (Hk : Hp) i m F S H, RH B Hk m F S H → Grow m1 F1 H1 m F H →
      (∀ x, xs[i]? = some x → J.go i H ∧ ∀ v H', J.yld i H v H' → ∃ T y, v = .ref T ∧ H T = none ∧ H' = upd H T (.tup [.int (i : Nat), y]) ∧ Rel B F y x) ∧ (xs[i]? = none → J.stop i H)) : ItOk B m1 F1 H1 J fun _ => some (enD 0 xs) := by
  intro Hk i m F S H ys R G e
  cases e
  obtain ⟨h1, h2⟩ := h Hk i m F S H R G
  rw [enD_get]
  refine ⟨fun x hx => ?_, fun hx => ?_⟩
  · obtain ⟨d, hd, rfl⟩ := Option.map_eq_some_iff.mp hx
    obtain ⟨go, y⟩ := h1 d hd
    refine ⟨go, fun v H' yy => ?_⟩
    obtain ⟨T, w, rfl, hT, rfl, rw'⟩ := y v H' yy
    obtain ⟨R', G'⟩ := R.newF (o := .tup [.int (i : Nat), w]) hT
    refine ⟨_, R', G', .d (.tup (SqT.of upd_same) (.cons ?_ (.cons (rw'.mono (same_own (R.none hT))) .nil)))⟩
    rw [Nat.zero_add]
    exact .int _
  · exact h2 (by simpa using hx)
theorem di_enum {e : Expr} {f : DE} {p pos tpos : Pos} {elts : List Expr} {kk : Nat} (hB : BX B X) (hg : Gl X "enumerate") (hm : X.mg "enumerate" = none) (he : PE X e (denE B W f)) (hs : starEach [e] X.env = [(false, eval e X.env)] := by rfl) (hs2 : starEach [e] X.env = (false, eval e X.env) :: starEach [] X.env := by rfl) :
    PI X (.Tuple elts kk tpos) (.Call (.Name "enumerate" p) [e] [] pos) (denI B W (iEnum' f)) :=
  PI_weak (pi_enA hg hm (pa_cons he pa_nil hs2) hs) fun σ H R ⟨Hk, m, F, sl, S, R1, R2, q⟩ => by
    show denE B W f σ H _
    refine ⟨Hk, m, F, sl, S, R1, R2, ?_⟩
    unfold iEnum' at q
    cases e0 : f sl S with
    | exc c S' => rw [e0] at q; exact q
    | bad => rw [e0] at q; exact q
    | ok x S1 =>
      rw [e0, Out.bind_ok] at q
      intro v H' m' F' R3 G r
      cases e1 : toD x S1 with
      | exc c S' =>
        cases x with
        | d _ => cases e1
        | r n =>
          simp only [toD] at e1
          split at e1
          · cases e1
          · split at e1 <;> cases e1
          · cases e1
      | bad => rw [e1] at q; exact False.elim q
      | ok d S2 =>
        rw [e1, Out.bind_ok] at q
        obtain ⟨F2, R4, G4, r2⟩ := keepD R3 r e1
        have Ga := G.trans G4
        cases r2 with
        | lst h1 h2 =>
          rename_i a xs ds
          refine .inl ⟨a, xs, rfl, .inl (Rd.same R4.froz h1), q _ m' F2 H' R4 Ga (en_ok fun Hk i m F S H R5 G5 => ?_)⟩
          have hq : SqL X.K H a xs := .inl (Rd.same R5.froz (Rd.same G5.ff h1))
          refine ⟨fun x hx => ?_, fun hx => ?_⟩
          · obtain ⟨u, hu, ru⟩ := h2.get hx
            refine ⟨⟨xs, u, hq, hu⟩, fun v H' ⟨T, y, e2, e3, e4, e5⟩ => ⟨T, y, e2, e3, e4, ?_⟩⟩
            have := e5 xs hq
            rw [hu] at this; cases this
            exact ru.mono G5.ff
          · exact ⟨xs, hq, by rw [h2.len]; simpa using hx⟩
        | tup h1 h2 =>
          rename_i a xs ds
          refine .inr (.inl ⟨a, xs, rfl, hB.K ▸ SqT.same R4.froz h1, q _ m' F2 H' R4 Ga (en_ok fun Hk i m F S H R5 G5 => ?_)⟩)
          have hq : SqT X.K H a xs := hB.K ▸ SqT.same R5.froz (SqT.same G5.ff h1)
          refine ⟨fun x hx => ?_, fun hx => ?_⟩
          · obtain ⟨u, hu, ru⟩ := h2.get hx
            refine ⟨⟨xs, u, hq, hu⟩, fun v H' ⟨T, y, e2, e3, e4, e5⟩ => ⟨T, y, e2, e3, e4, ?_⟩⟩
            have := e5 xs hq
            rw [hu] at this; cases this
            exact ru.mono G5.ff
          · exact ⟨xs, hq, by rw [h2.len]; simpa using hx⟩
        | str s =>
          refine .inr (.inr ⟨_, rfl, q _ m' F2 H' R4 Ga (en_ok fun Hk i m F S H R5 G5 => ?_)⟩)
          refine ⟨fun x hx => ?_, fun hx => ?_⟩
          · rw [List.getElem?_map] at hx
            obtain ⟨c, hc, rfl⟩ := Option.map_eq_some_iff.mp hx
            have hc' : (⟨s.toArray⟩ : Str).cps[i]? = some c := by simpa using hc
            refine ⟨(Array.getElem?_eq_some_iff.mp hc').1, fun v H' ⟨T, y, e2, e3, e4, c', e5, e6⟩ => ⟨T, y, e2, e3, e4, ?_⟩⟩
            rw [hc'] at e5; cases e5
            subst e6
            exact .str [c]
          · have : s.length ≤ i := by simpa using hx
            show (⟨s.toArray⟩ : Str).cps.size ≤ i
            simpa using this
        | _ => exact False.elim q

/-! ### ranges -/
def rngD (lo : Int) (n : Nat) : List Val := (List.range n).map fun i => Val.d (.int (lo + (i : Nat)))
theorem ok_rng {m1 : List Addr} {F1 H1 : Hp} {lo : Int} {n : Nat} : ItOk B m1 F1 H1 (Itr lo n) fun _ => some (rngD lo n) := by
  intro Hk i m F S H xs R G e
  cases e
  refine ⟨fun y hy => ?_, fun hy => ?_⟩
  · unfold rngD at hy
    rw [List.getElem?_map] at hy
    obtain ⟨k, hk, rfl⟩ := Option.map_eq_some_iff.mp hy
    obtain ⟨hl, hk⟩ := List.getElem?_eq_some_iff.mp hk
    have hk : i = k := by simpa using hk
    subst hk
    have hl : i < n := by simpa using hl
    refine ⟨hl, fun u H' ⟨e1, e2⟩ => ?_⟩
    subst e1 e2
    exact ⟨F, R, Grow.refl _ _ _, .d (.int _)⟩
  · have : n ≤ i := by simpa [rngD] using hy
    exact this
def fitI (j : Int) : Bool := decide (-(2 ^ 62) ≤ j) && decide (j < 2 ^ 62)
def iRange (fa : DA) : DI := fun sl S => (fa sl S).bind fun xs S1 => match xs with
  | [.d (.int j)] => if fitI j = true then .ok (fun _ => some (rngD 0 j.toNat)) S1 else .bad
  | [.d (.int i), .d (.int j)] => if fitI i = true ∧ fitI j = true then .ok (fun _ => some (rngD i (j - i).toNat)) S1 else .bad
  | _ => .bad
theorem fit_of {j : Int} (h : fitI j = true) : -(2 ^ 62) ≤ j ∧ j < 2 ^ 62 := by
  unfold fitI at h
  rw [Bool.and_eq_true] at h
  exact ⟨of_decide_eq_true h.1, of_decide_eq_true h.2⟩
theorem di_range1 {tg a : Expr} {fa : DA} {p pos : Pos} (hg : Gl X "range") (hm : X.mg "range" = none) (ha : PA X [a] (denA B W fa)) (hl : lenA fa 1) (hs : starEach [a] X.env = [(false, eval a X.env)] := by rfl) : PI X tg (.Call (.Name "range" p) [a] [] pos) (denI B W (iRange fa)) :=
  PI_weak (pi_range1 hg hm ha hs) fun σ H R ⟨Hk, m, F, sl, S, R1, R2, q⟩ => by
    refine ⟨Hk, m, F, sl, S, R1, R2, ?_⟩
    unfold iRange at q
    cases e0 : fa sl S with
    | exc c S' => rw [e0] at q; exact q
    | bad => rw [e0] at q; exact q
    | ok xs S1 =>
      rw [e0, Out.bind_ok] at q
      intro vs H' m' F' R3 G r
      have hl := hl sl S xs S1 e0
      match xs, r, hl with
      | [x], .cons r1 .nil, _ =>
        cases x with
        | r _ => exact False.elim q
        | d x =>
          cases x with
          | int j =>
            cases r1 with
            | d r1 =>
              cases r1
              dsimp only at q
              by_cases hf : fitI j = true
              · rw [if_pos hf] at q
                obtain ⟨h1, h2⟩ := fit_of hf
                exact ⟨j, rfl, h1, h2, q _ m' F' H' R3 G ok_rng⟩
              · rw [if_neg hf] at q; exact False.elim q
          | _ => exact False.elim q
theorem di_range2 {tg a b : Expr} {fa : DA} {p pos : Pos} (hg : Gl X "range") (hm : X.mg "range" = none) (ha : PA X [a, b] (denA B W fa)) (hl : lenA fa 2) (hs : starEach [a, b] X.env = [(false, eval a X.env), (false, eval b X.env)] := by rfl) (hs2 : starEach [b] X.env = [(false, eval b X.env)] := by rfl) :
    PI X tg (.Call (.Name "range" p) [a, b] [] pos) (denI B W (iRange fa)) :=
  PI_weak (pi_range2 hg hm ha hs hs2) fun σ H R ⟨Hk, m, F, sl, S, R1, R2, q⟩ => by
    refine ⟨Hk, m, F, sl, S, R1, R2, ?_⟩
    unfold iRange at q
    cases e0 : fa sl S with
    | exc c S' => rw [e0] at q; exact q
    | bad => rw [e0] at q; exact q
    | ok xs S1 =>
      rw [e0, Out.bind_ok] at q
      intro vs H' m' F' R3 G r
      have hl := hl sl S xs S1 e0
      match xs, r, hl with
      | [x, y], .cons r1 (.cons r2 .nil), _ =>
        cases x with
        | r _ => exact False.elim q
        | d x =>
          cases x with
          | int i =>
            cases y with
            | r _ => exact False.elim q
            | d y =>
              cases y with
              | int j =>
                cases r1 with
                | d r1 =>
                  cases r2 with
                  | d r2 =>
                    cases r1
                    cases r2
                    dsimp only at q
                    by_cases hf : fitI i = true ∧ fitI j = true
                    · rw [if_pos hf] at q
                      obtain ⟨h1, h2⟩ := fit_of hf.1
                      obtain ⟨h3, h4⟩ := fit_of hf.2
                      exact ⟨i, j, rfl, ⟨h1, h2, h3, h4⟩, q _ m' F' H' R3 G ok_rng⟩
                    · rw [if_neg hf] at q; exact False.elim q
              | _ => exact False.elim q
          | _ => exact False.elim q
end
end Dn

set_option Elab.async false
set_option linter.all false
set_option maxRecDepth 100000
set_option maxHeartbeats 2000000
/-! Dn: built-in functions. -/
namespace Dn
open PySem L2 PyProof.Rows

section
variable {X : Cx} {B : Bs} {W : WX} {r : List V → Hp → VK → Prop} {k : List Val → Sto → Out Val} {fa : DA} {x : Str} {p pos : Pos} {e : Expr} {es : List Expr} {id T : String}
theorem CallR.or {f : Value} {r r' : List V → Hp → VK → Prop} (h : CallR X f r) (h' : CallR X f r') : CallR X f (fun xs H Q => r xs H Q ∨ r' xs H Q) := by
  intro pins s σ H xs us Q I rs q
  rcases q with q | q
  · exact h pins s σ H xs us Q I rs q
  · exact h' pins s σ H xs us Q I rs q
theorem de_cB (hc : CallR X (.builtin id) r) (hp : PrimA B W r k) (hg : Gl X x) (hm : X.mg x = none) (hv : bootBuiltins x = some (.builtin id)) (ha : PA X (e :: es) (denA B W fa)) (hn : x ≠ "__name__" := by decide) (hdb : (x == ("__debug__" : Str)) = false := by decide)
    (he : starEach (e :: es) X.env = (false, eval e X.env) :: starEach es X.env := by rfl) (hpl : (backTo pos (starEach es X.env)).any (·.1) = false := by rfl) : PE X (.Call (.Name x p) (e :: es) [] pos) (denE B W (dA fa k)) := deA (pe_callB hc hg hm hv ha hn hdb he hpl) hp
theorem de_cT (hc : CallR X (.type T) r) (hp : PrimA B W r k) (hg : Gl X x) (hm : X.mg x = none) (hv : bootBuiltins x = some (.type T)) (ha : PA X (e :: es) (denA B W fa)) (hn : x ≠ "__name__" := by decide) (hdb : (x == ("__debug__" : Str)) = false := by decide)
    (he : starEach (e :: es) X.env = (false, eval e X.env) :: starEach es X.env := by rfl) (hpl : (backTo pos (starEach es X.env)).any (·.1) = false := by rfl) : PE X (.Call (.Name x p) (e :: es) [] pos) (denE B W (dA fa k)) := deA (pe_callTy hc hg hm hv ha hn hdb he hpl) hp
def rdA (o : List D → Option D) : List Val → Sto → Out Val := fun xs S => match xs.mapM (asD S) with
  | some ds => Out.of ((o ds).map .d) S
  | none => .bad
def rdA1 (o : D → Option D) : List Val → Sto → Out Val := fun xs S => match xs with
  | [x] => rd1 o x S
  | _ => .bad
def rdA2 (o : D → D → Option D) : List Val → Sto → Out Val := fun xs S => match xs with
  | [x, y] => rd2 o x y S
  | _ => .bad
theorem pA1 {r : List V → Hp → VK → Prop} {o : D → Option D} (h : ∀ (F H : Hp) (v : V) (a z : D) (Q : VK), Same F H → Look B F H v a → o a = some z → Res B F H z Q → r [v] H Q) : PrimA B W r (rdA1 o) := by
  intro Hk σ m F S H vs xs Q R rs p
  cases rs with
  | nil => exact False.elim p
  | cons r1 rs =>
    cases rs with
    | cons _ _ => exact False.elim p
    | nil => exact prim1_rd (W := W) (r := fun x H Q => r [x] H Q) h Hk σ m F S H _ _ Q R r1 p
theorem pA2 {r : List V → Hp → VK → Prop} {o : D → D → Option D} (h : ∀ (F H : Hp) (v w : V) (a b z : D) (Q : VK), Same F H → Look B F H v a → Look B F H w b → o a b = some z → Res B F H z Q → r [v, w] H Q) : PrimA B W r (rdA2 o) := by
  intro Hk σ m F S H vs xs Q R rs p
  cases rs with
  | nil => exact False.elim p
  | cons r1 rs =>
    cases rs with
    | nil => exact False.elim p
    | cons r2 rs =>
      cases rs with
      | cons _ _ => exact False.elim p
      | nil => exact prim2_rd (W := W) (r := fun x y H Q => r [x, y] H Q) h Hk σ m F S H _ _ _ _ Q R r1 r2 p

/-! ### len -/
def lenV (S : Sto) (x : Val) : Option Nat := match lstItems S x with
  | some xs => some xs.length
  | none => match tupItems S x with
    | some xs => some xs.length
    | none => match x with
      | .d (.str s) => if s.length ≤ 16777216 then some s.length else none
      | .d _ => none
      | .r n => match S[n]? with
        | some (.dck kvs) => some kvs.length
        | _ => none
def kLen (xs : List Val) (S : Sto) : Out Val := match xs with
  | [x] => (match lenV S x with
    | some n => .ok (.d (.int (n : Nat))) S
    | none => .bad)
  | _ => .bad
def rLenA (K : PySem.W.Frag) : List V → Hp → VK → Prop := fun xs H Q => (∃ z, xs = [.str z] ∧ z.length ≤ sizeLine ∧ Q (.int z.length) H) ∨ (∃ p ys, xs = [.ref p] ∧ (SqL K H p ys ∨ SqT K H p ys) ∧ Q (.int ys.length) H) ∨ ∃ a kvs, xs = [V.ref a] ∧ H a = some (.dK kvs) ∧ Q (.int kvs.length) H
theorem call_lenA : CallR X (.builtin "len") (rLenA X.K) := CallR.or call_len_str (CallR.or call_len_seq call_lenD)
theorem p_len (hB : BX B X) : PrimA B W (rLenA X.K) kLen := by
  intro Hk σ m F S H vs xs Q R rs p
  cases rs with
  | nil => exact False.elim p
  | cons r1 rs =>
    cases rs with
    | cons _ _ => exact False.elim p
    | nil =>
      rename_i v x
      simp only [kLen, lenV] at p
      cases e1 : lstItems S x with
      | some ys =>
        rw [e1] at p
        obtain ⟨a, zs, rfl, h1, h2⟩ := lst_items R r1 e1
        refine .inr (.inl ⟨a, zs, rfl, .inl (.inl h1), ?_⟩)
        rw [h2.len]
        exact p _ H m F R (Grow.refl _ _ _) (.d (.int _))
      | none =>
        rw [e1] at p
        cases e2 : tupItems S x with
        | some ys =>
          rw [e2] at p
          obtain ⟨a, zs, rfl, h1, h2⟩ := tup_items R r1 e2
          refine .inr (.inl ⟨a, zs, rfl, .inr (hB.K ▸ h1), ?_⟩)
          rw [h2.len]
          exact p _ H m F R (Grow.refl _ _ _) (.d (.int _))
        | none =>
          rw [e2] at p
          cases x with
          | d d =>
            cases d with
            | str s =>
              cases r1 with
              | d r1 =>
                cases r1
                dsimp only at p
                by_cases hz : s.length ≤ 16777216
                · rw [if_pos hz] at p
                  refine .inl ⟨_, rfl, by rw [str_len, szl]; exact hz, ?_⟩
                  rw [str_len]
                  exact p _ H m F R (Grow.refl _ _ _) (.d (.int _))
                · rw [if_neg hz] at p; exact False.elim p
            | _ => exact False.elim p
          | r n =>
            dsimp only at p
            cases e3 : S[n]? with
            | none => rw [e3] at p; exact False.elim p
            | some c =>
              rw [e3] at p
              cases c with
              | dck kvs =>
                cases r1 with
                | r hn =>
                  obtain ⟨_, us, h1, h2⟩ := R.cell _ _ _ hn e3
                  refine .inr (.inr ⟨_, us, rfl, h1, ?_⟩)
                  rw [h2.len]
                  exact p _ H m F R (Grow.refl _ _ _) (.d (.int _))
              | _ => exact False.elim p

/-! ### isinstance -/
def tyN : D → String
  | .non => "NoneType"
  | .bl _ => "bool"
  | .int _ => "int"
  | .str _ => "str"
  | .tup _ => "tuple"
  | .lst _ => "list"
  | .dct _ => "dict"
  | .dck _ => "dict"
  | .opq => "?"
/-- isinstance of a thing of the type a, one of these -/
def isTy (a b : String) : Option Bool := if a = b then some true else if b = "int" then some (a == "bool") else if b = "bool" ∨ b = "str" ∨ b = "tuple" ∨ b = "list" ∨ b = "dict" then some false else none
def kIs (T : String) (x : Val) (S : Sto) : Out Val := match asD S x with
  | some d => (match d with
    | .dct _ => .bad
    | .opq => .bad
    | d => match isTy (tyN d) T with
      | some b => .ok (.d (.bl b)) S
      | none => .bad)
  | none => .bad
theorem isTy_of {a b : String} {r : Bool} (ha : a = "NoneType" ∨ a = "bool" ∨ a = "int" ∨ a = "str" ∨ a = "tuple" ∨ a = "list" ∨ a = "dict") (hb : b = "int" ∨ b = "bool" ∨ b = "str" ∨ b = "tuple" ∨ b = "list" ∨ b = "dict") (h : isTy a b = some r) : kitB a b = some r := by
  rcases ha with rfl | rfl | rfl | rfl | rfl | rfl | rfl <;> rcases hb with rfl | rfl | rfl | rfl | rfl | rfl <;> (revert h; revert r; decide +kernel)
theorem look_ty {F H : Hp} {v : V} {d : D} (hB : BX B X) (f : Same F H) (l : Look B F H v d) (hd : ∀ kvs, d ≠ .dct kvs) (hd2 : d ≠ .opq) : TyX X.K H v (.type (tyN d)) := by
  cases l with
  | non => exact .base .non
  | bl b => exact .base (.bl b)
  | int i => exact .base (.int i)
  | str s => exact .base (.str _)
  | tup q _ =>
    have q : SqT X.K H _ _ := hB.K ▸ SqT.same f q
    rcases q with (q | ⟨o, q⟩) | ⟨o, its, n, h1, h2, _⟩
    · exact .base (.tup q)
    · exact .fTuple q
    · exact .kTuple h1 h2
  | lst q _ =>
    rcases q with q | ⟨o, q⟩
    · exact .base (.lst q)
    · exact .base (.frz q)
  | dct _ _ => exact absurd rfl (hd _)
  | dck q _ => exact .base (.dK q)
  | opq _ => exact absurd rfl hd2
theorem de_isi {f : DE} (T : String) {x y : Str} {p p2 pos : Pos} {e : Expr} (hB : BX B X) (hg : Gl X x) (hm : X.mg x = none) (hv : bootBuiltins x = some (.builtin "isinstance")) (hg2 : Gl X y) (hm2 : X.mg y = none) (hv2 : bootBuiltins y = some (.type T)) (hT : T = "int" ∨ T = "bool" ∨ T = "str" ∨ T = "tuple" ∨ T = "list" ∨ T = "dict" := by decide) (he : PE X e (denE B W f))
    (hn : x ≠ "__name__" := by decide) (hdb : (x == ("__debug__" : Str)) = false := by decide) (hn2 : y ≠ "__name__" := by decide) (hdb2 : (y == ("__debug__" : Str)) = false := by decide)
    (hs : starEach [e, .Name y p2] X.env = (false, eval e X.env) :: starEach [.Name y p2] X.env := by rfl) (hpl : (backTo pos (starEach [.Name y p2] X.env)).any (·.1) = false := by rfl) :
    PE X (.Call (.Name x p) [e, .Name y p2] [] pos) (denE B W (d1 f (kIs T))) :=
  de1 (PE_weak (pe_callB call_isi hg hm hv (pa_cons he (pa_cons (pe_bltn (v := .ty T) (u := .type T) hg2 hm2 hv2 rfl hn2 hdb2) pa_nil rfl) hs) hn hdb hs hpl) fun σ H Q q => q)
    (r := fun x H Q => rIsi X.K [x, .ty T] H Q) fun Hk σ m F S H v x Q R rx p => by
      unfold kIs at p
      cases e1 : asD S x with
      | none => rw [e1] at p; exact False.elim p
      | some d =>
        rw [e1] at p
        have l := look R rx e1
        have fin : (∀ kvs, d ≠ .dct kvs) → d ≠ .opq → post B W (relE B) Hk σ m F H (match isTy (tyN d) T with
            | some b => Out.ok (Val.d (.bl b)) S
            | none => .bad) Q → rIsi X.K [v, .ty T] H Q := fun hd hd2 p => by
          cases e2 : isTy (tyN d) T with
          | none => rw [e2] at p; exact False.elim p
          | some b =>
            rw [e2] at p
            refine ⟨v, .ty T, _, .type T, b, rfl, .ty T, look_ty hB R.froz l hd hd2, kit_ty (isTy_of ?_ hT e2), p _ H m F R (Grow.refl _ _ _) (.d (.bl b))⟩
            cases d <;> first | (simp [tyN]; done) | exact absurd rfl hd2
        cases d with
        | dct _ => exact False.elim p
        | opq => exact False.elim p
        | _ => exact fin (by intro _ h; cases h) (by intro h; cases h) p
end
end Dn

set_option Elab.async false
set_option linter.all false
set_option maxRecDepth 100000
set_option maxHeartbeats 2000000
/-! Dn: built-in functions over lists. -/
namespace Dn
open PySem L2 PyProof.Rows

section
variable {X : Cx} {B : Bs} {W : WX}
def max2D : D → D → Option D
  | .int i, .int j => some (.int (if j > i then j else i))
  | _, _ => none
def min2D : D → D → Option D
  | .int i, .int j => some (.int (if j < i then j else i))
  | _, _ => none
theorem p_max2 : PrimA B W (fun xs H Q => ∃ i j, xs = [.int i, .int j] ∧ Q (.int (if j > i then j else i)) H) (rdA2 max2D) := pA2 fun F H v w a b z Q f l1 l2 e R => by
  cases l1 <;> cases l2 <;> simp only [max2D, reduceCtorEq, Option.some.injEq] at e
  subst e; exact ⟨_, _, rfl, R.old _ (.int _)⟩
theorem p_min2 : PrimA B W (fun xs H Q => ∃ i j, xs = [.int i, .int j] ∧ Q (.int (if j < i then j else i)) H) (rdA2 min2D) := pA2 fun F H v w a b z Q f l1 l2 e R => by
  cases l1 <;> cases l2 <;> simp only [min2D, reduceCtorEq, Option.some.injEq] at e
  subst e; exact ⟨_, _, rfl, R.old _ (.int _)⟩
def intsOf : List D → Option (List Int)
  | [] => some []
  | .int i :: r => match intsOf r with
    | some l => some (i :: l)
    | none => none
  | _ => none
def blsOf : List D → Option (List Bool)
  | [] => some []
  | .bl i :: r => match blsOf r with
    | some l => some (i :: l)
    | none => none
  | _ => none
theorem ints_rel {F : Hp} : ∀ {vs : List V} {ds : List D} {l : List Int}, Rels B F vs ds → intsOf ds = some l → vs = l.map V.int
  | _, _, _, .nil, e => by simp [intsOf] at e; subst e; rfl
  | _, d :: ds, _, .cons r t, e => by
    cases d with
    | int s =>
      rw [intsOf] at e
      cases q : intsOf ds with
      | none => rw [q] at e; cases e
      | some l =>
        rw [q] at e
        cases e
        cases r
        rw [List.map_cons, ints_rel t q]
    | _ => cases e
theorem bls_rel {F : Hp} : ∀ {vs : List V} {ds : List D} {l : List Bool}, Rels B F vs ds → blsOf ds = some l → vs = l.map V.bl
  | _, _, _, .nil, e => by simp [blsOf] at e; subst e; rfl
  | _, d :: ds, _, .cons r t, e => by
    cases d with
    | bl s =>
      rw [blsOf] at e
      cases q : blsOf ds with
      | none => rw [q] at e; cases e
      | some l =>
        rw [q] at e
        cases e
        cases r
        rw [List.map_cons, bls_rel t q]
    | _ => cases e
def sumI : List Int → Int
  | [] => 0
  | x :: r => x + sumI r
def maxI (m : Int) : List Int → Int
  | [] => m
  | x :: r => maxI (if m < x then x else m) r
def minI (m : Int) : List Int → Int
  | [] => m
  | x :: r => minI (if x < m then x else m) r
theorem sumI_eq (l : List Int) : l.sum = sumI l := by induction l with | nil => rfl | cons x r ih => rw [List.sum_cons, ih, sumI]
theorem maxI_of : ∀ (l : List Int) (m : Int), (maxI m l = m ∨ maxI m l ∈ l) ∧ m ≤ maxI m l ∧ ∀ y ∈ l, y ≤ maxI m l
  | [], m => ⟨.inl rfl, Int.le_refl _, fun _ h => nomatch h⟩
  | x :: r, m => by
    rw [maxI]
    by_cases hx : m < x
    · rw [if_pos hx]
      obtain ⟨h1, h2, h3⟩ := maxI_of r x
      refine ⟨.inr ?_, by omega, fun y hy => ?_⟩
      · rcases h1 with h | h
        · rw [h]; simp
        · exact List.mem_cons_of_mem _ h
      · rcases List.mem_cons.mp hy with rfl | hy
        · exact h2
        · exact h3 y hy
    · rw [if_neg hx]
      obtain ⟨h1, h2, h3⟩ := maxI_of r m
      refine ⟨?_, h2, fun y hy => ?_⟩
      · rcases h1 with h | h
        · exact .inl h
        · exact .inr (List.mem_cons_of_mem _ h)
      · rcases List.mem_cons.mp hy with rfl | hy
        · omega
        · exact h3 y hy
theorem minI_of : ∀ (l : List Int) (m : Int), (minI m l = m ∨ minI m l ∈ l) ∧ minI m l ≤ m ∧ ∀ y ∈ l, minI m l ≤ y
  | [], m => ⟨.inl rfl, Int.le_refl _, fun _ h => nomatch h⟩
  | x :: r, m => by
    rw [minI]
    by_cases hx : x < m
    · rw [if_pos hx]
      obtain ⟨h1, h2, h3⟩ := minI_of r x
      refine ⟨.inr ?_, by omega, fun y hy => ?_⟩
      · rcases h1 with h | h
        · rw [h]; simp
        · exact List.mem_cons_of_mem _ h
      · rcases List.mem_cons.mp hy with rfl | hy
        · exact h2
        · exact h3 y hy
    · rw [if_neg hx]
      obtain ⟨h1, h2, h3⟩ := minI_of r m
      refine ⟨?_, h2, fun y hy => ?_⟩
      · rcases h1 with h | h
        · exact .inl h
        · exact .inr (List.mem_cons_of_mem _ h)
      · rcases List.mem_cons.mp hy with rfl | hy
        · omega
        · exact h3 y hy
def sumD : D → Option D
  | .lst xs => (intsOf xs).map fun l => .int (sumI l)
  | _ => none
def maxD : D → Option D
  | .lst xs => match intsOf xs with
    | some (x :: r) => some (.int (maxI x r))
    | _ => none
  | _ => none
def minD : D → Option D
  | .lst xs => match intsOf xs with
    | some (x :: r) => some (.int (minI x r))
    | _ => none
  | _ => none
def anyD : D → Option D
  | .lst xs => (blsOf xs).map fun l => .bl (l.any id)
  | _ => none
def allDD : D → Option D
  | .lst xs => (blsOf xs).map fun l => .bl (l.all id)
  | _ => none
theorem p_sum : PrimA B W (rSum X.K) (rdA1 sumD) := pA1 fun F H v a z Q f l e R => by
  cases l with
  | lst q r =>
    simp only [sumD, Option.map_eq_some_iff] at e
    obtain ⟨ns, h, rfl⟩ := e
    refine ⟨_, ns, rfl, .inl (by rw [← ints_rel r h]; exact q), ?_⟩
    rw [sumI_eq]; exact R.old _ (.int _)
  | _ => cases e
theorem p_any : PrimA B W (rAny X.K) (rdA1 anyD) := pA1 fun F H v a z Q f l e R => by
  cases l with
  | lst q r =>
    simp only [anyD, Option.map_eq_some_iff] at e
    obtain ⟨ns, h, rfl⟩ := e
    exact ⟨_, ns, rfl, .inl (by rw [← bls_rel r h]; exact q), R.old _ (.bl _)⟩
  | _ => cases e
theorem p_all : PrimA B W (rAll X.K) (rdA1 allDD) := pA1 fun F H v a z Q f l e R => by
  cases l with
  | lst q r =>
    simp only [allDD, Option.map_eq_some_iff] at e
    obtain ⟨ns, h, rfl⟩ := e
    exact ⟨_, ns, rfl, .inl (by rw [← bls_rel r h]; exact q), R.old _ (.bl _)⟩
  | _ => cases e
theorem p_max : PrimA B W (rMax X.K) (rdA1 maxD) := pA1 fun F H v a z Q f l e R => by
  cases l with
  | lst q r =>
    simp only [maxD] at e
    split at e
    · rename_i x ns h
      cases e
      obtain ⟨h1, h2, h3⟩ := maxI_of ns x
      refine ⟨_, x :: ns, rfl, .inl (by rw [← ints_rel r h]; exact q), by simp, fun m hm hy => ?_⟩
      have : m = maxI x ns := by
        have a1 : m ≤ maxI x ns := by
          rcases List.mem_cons.mp hm with rfl | hm
          · exact h2
          · exact h3 m hm
        have a2 : maxI x ns ≤ m := by
          rcases h1 with h | h
          · rw [h]; exact hy x (by simp)
          · exact hy _ (List.mem_cons_of_mem _ h)
        omega
      rw [this]; exact R.old _ (.int _)
    · cases e
  | _ => cases e
theorem p_min : PrimA B W (rMin X.K) (rdA1 minD) := pA1 fun F H v a z Q f l e R => by
  cases l with
  | lst q r =>
    simp only [minD] at e
    split at e
    · rename_i x ns h
      cases e
      obtain ⟨h1, h2, h3⟩ := minI_of ns x
      refine ⟨_, x :: ns, rfl, .inl (by rw [← ints_rel r h]; exact q), by simp, fun m hm hy => ?_⟩
      have : m = minI x ns := by
        have a1 : minI x ns ≤ m := by
          rcases List.mem_cons.mp hm with rfl | hm
          · exact h2
          · exact h3 m hm
        have a2 : m ≤ minI x ns := by
          rcases h1 with h | h
          · rw [h]; exact hy x (by simp)
          · exact hy _ (List.mem_cons_of_mem _ h)
        omega
      rw [this]; exact R.old _ (.int _)
    · cases e
  | _ => cases e

/-! ### max(xs, default=d) -/
theorem maxD_eq : ∀ (ns : List Int) (n : Int), ns.foldl max n = maxI n ns
  | [], _ => rfl
  | x :: r, n => by
    rw [List.foldl_cons, maxI, maxD_eq r]
    congr 1
    by_cases h : n < x
    · rw [if_pos h]; omega
    · rw [if_neg h]; omega
def rMaxDf (K : PySem.W.Frag) : List V → List V → Hp → VK → Prop := fun vs zs H Q => ∃ (a : Addr) (ns : List Int) (d : V), vs = [V.ref a] ∧ zs = [d] ∧ SqL K H a (ns.map V.int) ∧ (ns = [] → Q d H) ∧ ∀ n r, ns = n :: r → Q (.int (maxI n r)) H
theorem reads_ints {h : Heap} : ∀ {vs : List Value} {ns : List Int}, Vals (ns.map V.int) vs → ReadsAll h vs (ns.map PyData.int) []
  | _, [], .nil => .nil
  | _, n :: ns, .cons r t => by
    obtain ⟨t', rfl⟩ := r
    have := ReadsAll.cons (Reads.int (h := h) n t') (reads_ints t)
    simpa using this
theorem alike_intsA : ∀ ns : List Int, PySem.W.AlikeAll (ns.map PyData.int) := by
  intro ns
  refine ⟨fun x hx y hy => ?_, fun x hx => ?_⟩
  · obtain ⟨i, _, rfl⟩ := List.mem_map.mp hx
    obtain ⟨j, _, rfl⟩ := List.mem_map.mp hy
    rfl
  · obtain ⟨i, _, rfl⟩ := List.mem_map.mp hx
    intro h
    cases h
theorem call_maxDf (hc : X.calm = true) (hu : X.A.units + 100 < cLine) : CallRK X (.builtin "max") [Str.ofString "default"] (rMaxDf X.K) := by
  intro pins s σ H xs zs us ws Q I rx rz h
  obtain ⟨a, ns, d, rfl, rfl, hs, q1, q2⟩ := h
  obtain ⟨u, rfl, ru⟩ := rx.one
  cases ru
  obtain ⟨w, rfl, rw'⟩ := rz.one
  obtain ⟨its, rv, p, hz⟩ := I.list hs
  refine PySem.W.max_list_default (I.ok.hd hc) p.isList (xs := ns.map PyData.int) (as := []) (by simpa using reads_ints rv) (alike_intsA ns) ?_ (fun e h' tk k => ?_) fun y ys i v h' tk bs e hi hr k => ?_
  · rw [PySem.W.depth_ints]; omega
  · exact ⟨d, H, I.kept (t' := tk) k, rw', q1 (by simpa using e)⟩
  · cases ns with
    | nil => cases e
    | cons n r =>
      rw [List.map_cons] at e
      injection e with e1 e2
      subst e1 e2
      rw [PySem.W.maxD_ints, maxD_eq] at hr
      cases hr
      exact ⟨.int (maxI n r), H, I.kept (t' := tk) k, ⟨_, rfl⟩, q2 n r rfl⟩
def kMaxDf (x d : Val) (S : Sto) : Out Val := match asD S x with
  | some (.lst xs) => (match intsOf xs with
    | some [] => .ok d S
    | some (n :: r) => .ok (.d (.int (maxI n r))) S
    | none => .bad)
  | _ => .bad
theorem de_maxDf {f fd : DE} {x : Str} {p pos kpos : Pos} {e ed : Expr} (hc : X.calm = true) (hu : X.A.units + 100 < cLine) (hg : Gl X x) (hm : X.mg x = none) (hv : bootBuiltins x = some (.builtin "max")) (he : PE X e (denE B W f)) (hd : PE X ed (denE B W fd)) (hn : x ≠ "__name__" := by decide) (hdb : (x == ("__debug__" : Str)) = false := by decide)
    (h1 : backTo pos (starEach [e] X.env) = (false, eval e X.env) :: backTo pos (starEach [] X.env) := by rfl) (h2 : (backTo pos (starEach [e] X.env)).any (·.1) = false := by rfl)
    (h3 : (backToKw pos (keywordEach [⟨some (Str.ofString "default"), ed, kpos⟩] X.env)).all (·.1.isSome) = true := by rfl) (h4 : (backToKw pos (keywordEach [⟨some (Str.ofString "default"), ed, kpos⟩] X.env)).any (·.1.isNone) = false := by rfl)
    (h5 : (backToKw pos (keywordEach [⟨some (Str.ofString "default"), ed, kpos⟩] X.env)).filterMap (·.1) = [Str.ofString "default"] := by rfl) (hs : starEach [e] X.env = (false, eval e X.env) :: starEach [] X.env := by rfl) :
    PE X (.Call (.Name x p) [e] [⟨some (Str.ofString "default"), ed, kpos⟩] pos) (denE B W (d2 f fd kMaxDf)) :=
  PE_weak (pe_callBK (call_maxDf hc hu) hg hm hv (pa_cons he pa_nil hs) (pk_cons hd pk_nil) hn hdb h1 h2 h3 h4 h5) fun σ H Q q => by
    show tOp (fun x d H Q => rMaxDf X.K [x] [d] H Q) (denE B W f) (denE B W fd) σ H Q
    refine w_d2 (k := kMaxDf) (fun Hk σ m F S H v w x y Q R rx ry p => ?_) q
    unfold kMaxDf at p
    split at p
    · rename_i xs hx
      have l := look R rx hx
      cases l with
      | lst q r =>
        split at p
        · rename_i h
          refine ⟨_, [], w, rfl, rfl, .inl (by have := ints_rel r h; rw [← this]; exact q), fun _ => p w H m F R (Grow.refl _ _ _) ry, fun n r e => by cases e⟩
        · rename_i n l h
          refine ⟨_, n :: l, w, rfl, rfl, .inl (by have := ints_rel r h; rw [← this]; exact q), fun e => (by cases e), fun n' r' e => ?_⟩
          cases e
          exact p _ H m F R (Grow.refl _ _ _) (.d (.int _))
        · exact False.elim p
    · exact False.elim p

/-! ### int, tuple, list -/
def intD : D → Option D
  | .int i => some (.int i)
  | .bl b => some (.int (if b then 1 else 0))
  | _ => none
theorem p_int1 : PrimA B W (fun xs H Q => (∃ i, xs = [.int i] ∧ Q (.int i) H) ∨ ∃ k, xs = [.bl k] ∧ Q (.int (if k then 1 else 0)) H) (rdA1 intD) := pA1 fun F H v a z Q f l e R => by
  cases l with
  | int i => cases e; exact .inl ⟨i, rfl, R.old _ (.int i)⟩
  | bl b => cases e; exact .inr ⟨b, rfl, R.old _ (.int _)⟩
  | _ => cases e
def tupOfD : D → Option D
  | .lst xs => some (.tup xs)
  | .tup xs => some (.tup xs)
  | _ => none
def lstOfD : D → Option D
  | .lst xs => some (.lst xs)
  | .tup xs => some (.lst xs)
  | _ => none
theorem p_tupOf (hB : BX B X) : PrimA B W (fun xs H Q => ∃ p ys, xs = [.ref p] ∧ ((SqL X.K H p ys ∧ ∀ l, H l = none → Q (.ref l) (upd H l (.tup ys))) ∨ (SqT X.K H p ys ∧ Q (.ref p) H))) (rdA1 tupOfD) := pA1 fun F H v a z Q f l e R => by
  cases l with
  | lst q r => cases e; exact ⟨_, _, rfl, .inl ⟨.inl q, fun p hp => R.new p _ hp (.tup (SqT.of upd_same) (r.mono (same_own (f.free hp))))⟩⟩
  | tup q r => cases e; exact ⟨_, _, rfl, .inr ⟨hB.K ▸ SqT.same f q, R.old _ (.tup q r)⟩⟩
  | _ => cases e
abbrev rListOf (K : PySem.W.Frag) : List V → Hp → VK → Prop := fun xs H Q => ∃ p ys, xs = [.ref p] ∧ (SqL K H p ys ∨ SqT K H p ys) ∧ ∀ l, H l = none → Q (.ref l) (upd H l (.lst ys))
theorem p_lstOf (hB : BX B X) : PrimA B W (rListOf X.K) (rdA1 lstOfD) := pA1 fun F H v a z Q f l e R => by
  cases l with
  | lst q r => cases e; exact ⟨_, _, rfl, .inl (.inl q), fun p hp => R.new p _ hp (.lst (.inl upd_same) (r.mono (same_own (f.free hp))))⟩
  | tup q r => cases e; exact ⟨_, _, rfl, .inr (hB.K ▸ SqT.same f q), fun p hp => R.new p _ hp (.lst (.inl upd_same) (r.mono (same_own (f.free hp))))⟩
  | _ => cases e
/-- list(x), a cell -/
def kLstC (xs : List Val) (S : Sto) : Out Val := match xs with
  | [x] => (match lstItems S x with
    | some ys => .ok (.r S.length) (S ++ [Cell.lst ys])
    | none => match tupItems S x with
      | some ys => .ok (.r S.length) (S ++ [Cell.lst ys])
      | none => .bad)
  | _ => .bad
theorem p_lstC (hB : BX B X) : PrimA B W (rListOf X.K) kLstC := by
  intro Hk σ m F S H vs xs Q R rs p
  cases rs with
  | nil => exact False.elim p
  | cons r1 rs =>
    cases rs with
    | cons _ _ => exact False.elim p
    | nil =>
      simp only [kLstC] at p
      have fin : ∀ {ys : List Val} {us : List V}, RelXs B m F us ys → post B W (relE B) Hk σ m F H (Out.ok (Val.r S.length) (S ++ [Cell.lst ys])) Q → ∀ l, H l = none → Q (.ref l) (upd H l (.lst us)) := fun {ys us} h p l hl => by
        obtain ⟨R', G⟩ := R.newC (o := .lst us) (c := .lst ys) hl ⟨R.none hl, us, upd_same, h.mono ⟨[l], rfl⟩ (fun _ _ h => h)⟩
        exact p _ _ _ F R' G (.r (app_last R.len))
      split at p
      · rename_i ys e
        obtain ⟨a, us, rfl, h1, h2⟩ := lst_items R r1 e
        exact ⟨a, us, rfl, .inl (.inl h1), fin h2 p⟩
      · split at p
        · rename_i ys e
          obtain ⟨a, us, rfl, h1, h2⟩ := tup_items R r1 e
          exact ⟨a, us, rfl, .inr (hB.K ▸ h1), fin h2 p⟩
        · exact False.elim p
end
end Dn

set_option Elab.async false
set_option linter.all false
set_option maxRecDepth 100000
set_option maxHeartbeats 2000000
/-! Dn: sorted. -/
namespace Dn
open PySem L2 PyProof.Rows
open PySem.W (TotalLe sameRank EachIs dataLe)

section
variable {α β : Type} {le : α → α → Bool}
def insS (le : α → α → Bool) (x : α) : List α → List α
  | [] => [x]
  | y :: r => if le x y = true then x :: y :: r else y :: insS le x r
def sortS (le : α → α → Bool) : List α → List α
  | [] => []
  | x :: r => insS le x (sortS le r)
theorem insS_mem {x y : α} : ∀ {l : List α}, y ∈ insS le x l → y = x ∨ y ∈ l
  | [], h => by simp [insS] at h; exact .inl h
  | z :: r, h => by
    rw [insS] at h
    split at h
    · simpa using h
    · rcases List.mem_cons.mp h with h | h
      · exact .inr (by simp [h])
      · rcases insS_mem h with h | h
        · exact .inl h
        · exact .inr (List.mem_cons_of_mem _ h)
theorem insS_pw (T : TotalLe le) (x : α) : ∀ {l : List α}, l.Pairwise (fun a b => le a b = true) → (insS le x l).Pairwise (fun a b => le a b = true)
  | [], _ => by simp [insS]
  | z :: r, h => by
    rw [List.pairwise_cons] at h
    rw [insS]
    split
    · rename_i hx
      rw [List.pairwise_cons, List.pairwise_cons]
      refine ⟨fun y hy => ?_, h⟩
      rcases List.mem_cons.mp hy with rfl | hy
      · exact hx
      · exact T.trans _ _ _ hx (h.1 y hy)
    · rename_i hx
      rw [List.pairwise_cons]
      refine ⟨fun y hy => ?_, insS_pw T x h.2⟩
      rcases insS_mem hy with rfl | hy
      · exact (T.total y z).elim (fun e => absurd e hx) id
      · exact h.1 y hy
theorem insS_filter (T : TotalLe le) (x c : α) : ∀ l : List α, (insS le x l).filter (sameRank le c) = (x :: l).filter (sameRank le c)
  | [] => rfl
  | z :: r => by
    rw [insS]
    split
    · rfl
    · rename_i hx
      rw [List.filter_cons, insS_filter T x c r, List.filter_cons, List.filter_cons, List.filter_cons]
      by_cases h1 : sameRank le c z = true
      · by_cases h2 : sameRank le c x = true
        · exfalso
          simp only [sameRank, Bool.and_eq_true] at h1 h2
          exact hx (T.trans _ _ _ h2.2 h1.1)
        · simp only [if_pos h1, if_neg h2]
      · simp only [if_neg h1]
theorem sortS_eq (T : TotalLe le) (l : List α) : sortS le l = l.mergeSort le := by
  refine PySem.W.sort_unique T ?_ fun c => ?_
  · induction l with
    | nil => exact List.Pairwise.nil
    | cons x r ih => exact insS_pw T x ih
  · induction l with
    | nil => rfl
    | cons x r ih => rw [sortS, insS_filter T, List.filter_cons, List.filter_cons, ih]
end

/-! ### what can be sorted -/
def isI : D → Bool
  | .int _ => true
  | _ => false
def isSt : D → Bool
  | .str s => s.all fun c => decide (c < 1114112)
  | _ => false
def isSq : D → Bool
  | .tup [.int _, .int _] => true
  | _ => false
def isMv : D → Bool
  | .tup (x :: r) => isSq x && r.all isSq
  | _ => false
def sortable (ds : List D) : Bool := ds.all isI || ds.all isSt || ds.all isSq || ds.all isMv
abbrev leD (a b : D) : Bool := dataLe false toPy a b
theorem totD : TotalLe leD := PySem.W.sortLe_total _ _ _
def sortD (ds : List D) : Option (List D) := if sortable ds = true then some (sortS leD ds) else none
theorem sq_alike {a b : D} (ha : isSq a = true) (hb : isSq b = true) : PySem.W.alike (toPy a) (toPy b) = true := by
  unfold isSq at ha hb
  split at ha
  · split at hb
    · simp [toPy, toPys, PySem.W.alike, PySem.W.alikeAll]
    · cases hb
  · cases ha
theorem sqs_alike : ∀ {a b : List D}, a.all isSq = true → b.all isSq = true → PySem.W.alikeAll (toPys a) (toPys b) = true
  | [], b, _, _ => by simp [toPys, PySem.W.alikeAll]
  | x :: a, [], _, _ => by simp [toPys, PySem.W.alikeAll]
  | x :: a, y :: b, ha, hb => by
    rw [List.all_cons, Bool.and_eq_true] at ha hb
    simp only [toPys, PySem.W.alikeAll, Bool.and_eq_true]
    exact ⟨sq_alike ha.1 hb.1, sqs_alike ha.2 hb.2⟩
theorem sq_ok {a : D} (h : isSq a = true) : okD 1 a = true := by
  unfold isSq at h
  split at h
  · simp [okD, okDs]
  · cases h
theorem sqs_ok : ∀ {a : List D}, a.all isSq = true → okDs 1 a = true
  | [], _ => by simp [okDs]
  | x :: a, h => by
    rw [List.all_cons, Bool.and_eq_true] at h
    simp only [okDs, Bool.and_eq_true]
    exact ⟨sq_ok h.1, sqs_ok h.2⟩
theorem mv_split {a : D} (h : isMv a = true) : ∃ x r, a = .tup (x :: r) ∧ (x :: r).all isSq = true := by
  unfold isMv at h
  split at h
  · rename_i x r
    exact ⟨x, r, rfl, by rw [List.all_cons]; exact h⟩
  · cases h
theorem sq_split {a : D} (h : isSq a = true) : ∃ i j, a = .tup [.int i, .int j] := by
  unfold isSq at h
  split at h
  · exact ⟨_, _, rfl⟩
  · cases h
theorem sortable_of {ds : List D} (h : sortable ds = true) : PySem.W.AllAlike (ds.map toPy) ∧ PySem.W.Sortable (ds.map toPy) ∧ ∀ d ∈ ds, okD 2 d = true := by
  unfold sortable at h
  simp only [Bool.or_eq_true] at h
  have two : ∀ {p : D → Bool}, ds.all p = true → (∀ a b, p a = true → p b = true → PySem.W.alike (toPy a) (toPy b) = true) → PySem.W.AllAlike (ds.map toPy) := fun {p} hp hq d hd d' hd' => by
    obtain ⟨a, ha, rfl⟩ := List.mem_map.mp hd
    obtain ⟨b, hb, rfl⟩ := List.mem_map.mp hd'
    exact hq a b (List.all_eq_true.mp hp a ha) (List.all_eq_true.mp hp b hb)
  rcases h with ((h | h) | h) | h
  · refine ⟨two h fun a b ha hb => ?_, .inr fun d hd => ?_, fun d hd => ?_⟩
    · cases a <;> cases b <;> simp [isI, toPy, PySem.W.alike] at *
    · obtain ⟨a, ha, rfl⟩ := List.mem_map.mp hd
      have := List.all_eq_true.mp h a ha
      cases a <;> simp [isI, toPy] at *
    · have := List.all_eq_true.mp h d hd
      cases d <;> simp [isI, okD] at *
  · refine ⟨two h fun a b ha hb => ?_, .inr fun d hd => ?_, fun d hd => ?_⟩
    · cases a <;> cases b <;> simp [isSt, toPy, PySem.W.alike] at *
    · obtain ⟨a, ha, rfl⟩ := List.mem_map.mp hd
      have := List.all_eq_true.mp h a ha
      cases a <;> simp [isSt, toPy] at *
    · have := List.all_eq_true.mp h d hd
      cases d <;> simp [isSt, okD] at *
      exact this
  · refine ⟨two h fun a b ha hb => sq_alike ha hb, .inl fun d hd => ?_, fun d hd => okD_mono _ _ (sq_ok (List.all_eq_true.mp h d hd))⟩
    obtain ⟨a, ha, rfl⟩ := List.mem_map.mp hd
    obtain ⟨i, j, rfl⟩ := sq_split (List.all_eq_true.mp h a ha)
    exact ⟨_, _, by rw [toPy, toPys]⟩
  · refine ⟨two h fun a b ha hb => ?_, .inl fun d hd => ?_, fun d hd => ?_⟩
    · obtain ⟨x, r, rfl, h1⟩ := mv_split ha
      obtain ⟨y, t, rfl, h2⟩ := mv_split hb
      simp only [toPy, PySem.W.alike]
      exact sqs_alike h1 h2
    · obtain ⟨a, ha, rfl⟩ := List.mem_map.mp hd
      obtain ⟨x, r, rfl, h1⟩ := mv_split (List.all_eq_true.mp h a ha)
      exact ⟨_, _, by rw [toPy, toPys]⟩
    · obtain ⟨x, r, rfl, h1⟩ := mv_split (List.all_eq_true.mp h d hd)
      rw [okD]; exact sqs_ok h1

section
variable {X : Cx} {B : Bs} {W : WX}
theorem each_zip {us : List Value} : ∀ {vs : List V} {ds : List D}, vs.length = ds.length → Vals vs us → EachIs (fun v (b : V × D) => RelV b.1 v) us (vs.zip ds) := by
  induction us with
  | nil => intro vs ds hl r; cases r; exact .nil
  | cons u us ih =>
    intro vs ds hl r
    cases r with
    | cons r1 r2 =>
      cases ds with
      | nil => simp at hl
      | cons d ds => exact .cons r1 (ih (by simpa using hl) r2)
theorem each_reads {h : Heap} {us : List Value} : ∀ {vs : List V} {ds : List D} {as : List Addr}, vs.length = ds.length → ReadsAll h us (toPys ds) as → EachIs (fun v (b : V × D) => ∃ as, Reads h v (toPy b.2) as) us (vs.zip ds) := by
  induction us with
  | nil =>
    intro vs ds as hl r
    cases ds with
    | nil => cases vs with
      | nil => exact .nil
      | cons _ _ => simp at hl
    | cons d ds => rw [toPys] at r; cases r
  | cons u us ih =>
    intro vs ds as hl r
    cases ds with
    | nil => rw [toPys] at r; cases r
    | cons d ds =>
      cases vs with
      | nil => simp at hl
      | cons v vs =>
        rw [toPys] at r
        cases r with
        | cons r1 r2 => exact .cons ⟨_, r1⟩ (ih (by simpa using hl) r2)
theorem vals_each {us : List Value} {bs : List (V × D)} (h : EachIs (fun v (b : V × D) => RelV b.1 v) us bs) : Vals (bs.map (·.1)) us := by
  induction h with
  | nil => exact .nil
  | cons r _ ih => exact .cons r ih
theorem rels_of {F : Hp} : ∀ {bs : List (V × D)}, (∀ b ∈ bs, Rel B F b.1 b.2) → Rels B F (bs.map (·.1)) (bs.map (·.2))
  | [], _ => .nil
  | b :: bs, h => .cons (h b (by simp)) (rels_of fun c hc => h c (List.mem_cons_of_mem _ hc))
theorem rels_zip {F : Hp} : ∀ {vs : List V} {ds : List D}, Rels B F vs ds → ∀ b ∈ vs.zip ds, Rel B F b.1 b.2
  | _, _, .nil, b, h => by simp at h
  | _, _, .cons r t, b, h => by
    rcases List.mem_cons.mp (by simpa using h) with rfl | h
    · exact r
    · exact rels_zip t b h
theorem zip_snd : ∀ {vs : List V} {ds : List D}, vs.length = ds.length → (vs.zip ds).map (·.2) = ds
  | [], [], _ => rfl
  | _ :: vs, _ :: ds, h => by simp [zip_snd (vs := vs) (ds := ds) (by simpa using h)]
theorem zip_len {vs : List V} {ds : List D} (h : vs.length = ds.length) : (vs.zip ds).length = ds.length := by simp [h]
abbrev lePair : (V × D) → (V × D) → Bool := dataLe false fun b => toPy b.2
/-- the sorted pairs are the sorted data -/
theorem pair_sort (bs : List (V × D)) : (bs.mergeSort lePair).map (·.2) = sortS leD (bs.map (·.2)) := by
  rw [sortS_eq totD]
  exact PySem.W.sort_maps (fun b : V × D => b.2) fun a _ b _ => rfl
theorem pair_mem {bs : List (V × D)} {b : V × D} (h : b ∈ bs.mergeSort lePair) : b ∈ bs := (List.mergeSort_perm bs lePair).mem_iff.mp h
def rSortD (B : Bs) : List V → Hp → VK → Prop := fun xs H Q => ∃ a F vs ds, xs = [V.ref a] ∧ Same F H ∧ Rd H a (.lst vs) ∧ Rels B F vs ds ∧ sortable ds = true ∧ ∀ ws p, Rels B F ws (sortS leD ds) → H p = none → Q (.ref p) (upd H p (.lst ws))
theorem okDs_of {n : Nat} : ∀ {ds : List D}, (∀ d ∈ ds, okD n d = true) → okDs n ds = true
  | [], _ => by simp [okDs]
  | d :: ds, h => by
    simp only [okDs, Bool.and_eq_true]
    exact ⟨h d (by simp), okDs_of fun x hx => h x (List.mem_cons_of_mem _ hx)⟩
theorem call_sortL (hB : BX B X) (hu : X.A.units + 100 < cLine) : CallR X (.builtin "sorted") (rSortD B) := by
  intro pins s σ H xs us Q I r h
  obtain ⟨a, F, vs, ds, rfl, f, hl, hr, hs, q⟩ := h
  obtain ⟨u, rfl, ru⟩ := r.one
  cases ru
  obtain ⟨its, rv, p, hz⟩ := I.list (.inl hl)
  obtain ⟨k1, k2, k3⟩ := sortable_of hs
  have hn := hr.len
  have e1 := each_zip hn rv
  obtain ⟨as, rr⟩ := Dp.readsAll I _ _ _ (hB.K ▸ (hr.mono f).dp 2 (okDs_of k3)) rv
  have e2 := each_reads hn rr
  have hm : (vs.zip ds).map (fun b => toPy b.2) = ds.map toPy := by
    have := zip_snd hn
    rw [show (fun b : V × D => toPy b.2) = toPy ∘ (·.2) from rfl, ← List.map_map, this]
  refine PySem.W.sorted_data (R := fun v (b : V × D) => RelV b.1 v) (enc := fun b : V × D => toPy b.2) (bs := vs.zip ds) p.isList e1 e2 (by rw [hm]; exact k1) (by rw [hm]; exact k2) (by rw [zip_len hn, ← hn]; exact hz) (fun b hb => ?_) fun out ho hR => ?_
  · have hd := okD_lay 2 b.2 (k3 b.2 (by have := List.mem_map_of_mem (f := fun b : V × D => b.2) hb; rw [zip_snd hn] at this; exact this))
    omega
  · have hv := vals_each hR
    obtain ⟨e, he⟩ := sortedAll_at s.heap its (List.toArray out)
    refine ⟨.ref (s.heap.objs.size + 1), upd H (s.heap.objs.size + 1) (.lst (((vs.zip ds).mergeSort lePair).map (·.1))), I.laid (t' := s.toks) (fun b o hb => sortedAll_old hb) (Nat.le_succ _) ⟨?_, out, e, hv, he⟩, rfl, q _ _ ?_ (I.hok.fresh (Nat.le_succ _))⟩
    · rw [hv.length, ho, zip_len hn, ← hn]; exact hz
    · have := rels_of (B := B) (F := F) (bs := (vs.zip ds).mergeSort lePair) fun b hb => rels_zip hr b (pair_mem hb)
      rw [pair_sort, zip_snd hn] at this
      exact this

/-- a list just laid, sorted -/
theorem sort_new {pins : List (Addr × Obj)} {s : Shared} {σ : L2.St} {H F : Hp} {E : Value → Shared → Prop} {vs : List V} {ds : List D} {its : List Value} {Q : VK} {A : Around} (hA : A.units ≤ X.A.units + 2) (hB : BX B X) (hu : X.A.units + 100 < cLine) (I : Inv X pins σ H s) (f : Same F H) (rv : Vals vs its) (hr : Rels B F vs ds) (hs : sortable ds = true) (hz : vs.length ≤ sizeLine)
    (q : ∀ ws p, Rels B F ws (sortS leD ds) → H p = none → Q (.ref p) (upd H p (.lst ws))) :
    wpAny (model X.prog X.w) A (Builtin.«list.sort» ⟨[.ref s.heap.objs.size], []⟩) (fun fin s' => fin = .done (.ret .none) ∧ EP X pins σ Q (.ref s.heap.objs.size) s') E { s with heap := s.heap.push (seqObj "list" its.toArray 0) } := by
  obtain ⟨k1, k2, k3⟩ := sortable_of hs
  have hn := hr.len
  have e1 := each_zip hn rv
  obtain ⟨as, rr⟩ := Dp.readsAll I _ _ _ (hB.K ▸ (hr.mono f).dp 2 (okDs_of k3)) rv
  have e2 := each_reads hn rr
  have hm : (vs.zip ds).map (fun b => toPy b.2) = ds.map toPy := by
    have := zip_snd hn
    rw [show (fun b : V × D => toPy b.2) = toPy ∘ (·.2) from rfl, ← List.map_map, this]
  have hoL : (s.heap.push (seqObj "list" its.toArray 0)).get? s.heap.objs.size = some (seqObj "list" its.toArray 0) := Heap.get?_push_size _ rfl
  have er : EachIs (fun v (b : V × D) => ∃ as, Reads (PySem.W.sortingHeap (s.heap.push (seqObj "list" its.toArray 0)) s.heap.objs.size its) v (toPy b.2) as) its (vs.zip ds) :=
    e2.mono fun _ _ ⟨as, r⟩ => ⟨as, PyProof.Rows.Reads.keeps (fun b o hb => PySem.W.sortingHeap_old (Nat.ne_of_lt (Heap.lt_size hb)) (Heap.get?_push_of_some _ hb)) r⟩
  have hl : its.length ≤ sizeLine := by rw [← rv.length]; exact hz
  refine PySem.W.list_sort_vals hoL (PySem.W.SortsAt.data (PySem.W.each_map (R := fun v d => ∃ as, Reads _ v d as) (fun b : V × D => toPy b.2) er) (by rw [hm]; exact k1) (by rw [hm]; exact k2) fun d hd => ?_) hl ⟨rfl, ?_⟩
  · rw [hm] at hd
    obtain ⟨x, hx, rfl⟩ := List.mem_map.mp hd
    have := okD_lay 2 x (k3 x hx)
    omega
  · have hR := PySem.W.sortVals_data (R := fun v (b : V × D) => RelV b.1 v) false e1 er (by rw [hm]; exact k1)
    have hv := vals_each hR
    obtain ⟨e, he⟩ := sortedHeap_at (vs := its) (out := (PySem.W.sortVals (PySem.W.dataKind (PySem.W.sortingHeap (s.heap.push (seqObj "list" its.toArray 0)) s.heap.objs.size its) ((vs.zip ds).map fun b => toPy b.2)) false its its).toArray) hoL
    refine ⟨.ref s.heap.objs.size, upd H s.heap.objs.size (.lst (((vs.zip ds).mergeSort lePair).map (·.1))), I.laid (t' := s.toks) (fun b o hb => ?_) (Nat.le_refl _) ⟨?_, _, e, hv, he⟩, rfl, q _ _ ?_ (I.hok.fresh (Nat.le_refl _))⟩
    · rw [sortedHeap_old (Nat.ne_of_lt (Heap.lt_size hb)) (by rw [size_push']; exact Nat.lt_succ_of_lt (Heap.lt_size hb))]
      exact Heap.get?_push_of_some _ hb
    · rw [List.length_map, List.length_mergeSort, zip_len hn, ← hn]; exact hz
    · have := rels_of (B := B) (F := F) (bs := (vs.zip ds).mergeSort lePair) fun b hb => rels_zip hr b (pair_mem hb)
      rw [pair_sort, zip_snd hn] at this
      exact this
theorem sort_from {pins : List (Addr × Obj)} {s : Shared} {σ : L2.St} {H F : Hp} {r d : Addr} {n : Nat} {T : String} {P : Nat → Value → Prop} {OK : Heap → Prop} {vs : List V} {ds : List D} {Q : VK} (hc : X.calm = true) (hB : BX B X) (hu : X.A.units + 100 < cLine) (I : Inv X pins σ H s) (f : Same F H) (K : PySem.W.KdlSrc X.prog X.w T r d n P OK) (ok : OK s.heap) (hn : n ≤ sizeLine) (hvn : vs.length = n)
    (hP : ∀ (acc : Array Value), ItemsOf P acc n → Vals vs acc.toList) (hr : Rels B F vs ds) (hs : sortable ds = true) (q : ∀ ws p, Rels B F ws (sortS leD ds) → H p = none → Q (.ref p) (upd H p (.lst ws))) :
    wpAny (model X.prog X.w) X.A (call (.builtin "sorted") [.ref r]) (EP X pins σ Q) X.xe s := by
  refine Calls.call_function_entry PyProof.Rows.kind_sorted PyProof.Rows.plain_sorted PyProof.Rows.entry_sorted (PyProof.Rows.args_sorted1 _) ?_
  unfold Builtin.«sorted»
  refine wpAny_bind (m := checkCount "sorted" 1 1 _) (wpAny_pure ?_)
  refine wpAny_bind (PySem.W.kdu_collect (A := X.A.in1) K (I.ok.hd hc) ok hn fun h' tk acc hk hacc => ?_)
  have rv := hP acc hacc
  have J : Inv X pins σ H { s with heap := h', toks := tk } := I.kept hk
  refine wpAny_bind (wpAny_newList ?_ (by rw [← rv.length, hvn]; exact hn))
  have hoL : (h'.push (seqObj "list" acc.toList.toArray 0)).get? h'.objs.size = some (seqObj "list" acc.toList.toArray 0) := Heap.get?_push_size _ rfl
  show wpAny _ _ _ _ _ { s with heap := h'.push (seqObj "list" acc.toList.toArray 0), toks := tk }
  refine wpAny_bind (wpAny_holding (wpAny_call_entry PyProof.Rows.slot_list_sort ⟨_, hoL, rfl⟩ PyProof.Rows.entry_list_sort (wpAny_mono (sort_new (s := { s with heap := h', toks := tk }) (A := X.A.in1.in1) (by show X.A.units + 1 + 1 ≤ _; omega) hB hu J f rv hr hs (by rw [hvn]; exact hn) q) (fun fin s2 h => ?_) fun _ _ e => e) (PyProof.Rows.args_list_sort _)))
  obtain ⟨rfl, h⟩ := h
  exact ⟨_, rfl, wpAny_pure ⟨_, rfl, h⟩⟩
theorem keys_rel {m : List Addr} {F : Hp} : ∀ {es : List Ent} {kvs : List (NestedKey × Val)}, EntXs B m F es kvs → Rels B F (es.map fun x => V.ref x.2.1) (kvs.map fun kv => ofNK kv.1)
  | _, _, .nil => .nil
  | _, _, .cons h1 _ _ _ t => .cons h1 (keys_rel t)
theorem keys_relD {F : Hp} : ∀ {es : List Ent} {kvs : List (NestedKey × D)}, Ents B F es kvs → Rels B F (es.map fun x => V.ref x.2.1) (kvs.map fun kv => ofNK kv.1)
  | _, _, .nil => .nil
  | _, _, .cons h1 _ _ _ t => .cons h1 (keys_relD t)
def ofK : Key → D
  | .inl i => .int i
  | .inr x => .str x.cps.toList
theorem ofK_rel {F : Hp} (k : Key) : Rel B F (kV k) (ofK k) := by
  cases k with
  | inl i => exact .int i
  | inr x => exact rel_str rfl
theorem keys_relK {m : List Addr} {F : Hp} : ∀ {es : List (Key × V)} {kvs : List (Key × Val)}, KvXs B m F es kvs → Rels B F (es.map fun x => kV x.1) (kvs.map fun kv => ofK kv.1)
  | _, _, .nil => .nil
  | _, _, .cons _ t => .cons (ofK_rel _) (keys_relK t)
theorem keys_relKD {F : Hp} : ∀ {es : List (Key × V)} {kvs : List (Key × D)}, Kvs B F es kvs → Rels B F (es.map fun x => kV x.1) (kvs.map fun kv => ofK kv.1)
  | _, _, .nil => .nil
  | _, _, .cons _ t => .cons (ofK_rel _) (keys_relKD t)
theorem vals_ents : ∀ es : List Ent, Vals (es.map fun x => V.ref x.2.1) (es.map fun x => Value.ref x.2.1)
  | [] => .nil
  | _ :: es => .cons rfl (vals_ents es)
def rSortA (B : Bs) : List V → Hp → VK → Prop := fun xs H Q => ∃ a F ds, xs = [V.ref a] ∧ Same F H ∧ sortable ds = true ∧ (∀ ws p, Rels B F ws (sortS leD ds) → H p = none → Q (.ref p) (upd H p (.lst ws))) ∧
  ((∃ vs, Rd H a (.lst vs) ∧ Rels B F vs ds) ∨ (∃ ob es, H a = some (dN B.P B.w a ob es) ∧ (∀ x ∈ es, Rel B H (.ref x.2.1) (ofNK x.1) ∧ x.1.depth ≤ 8) ∧ Rels B F (es.map fun x => V.ref x.2.1) ds) ∨ ∃ vs, H a = some (.dK vs) ∧ Rels B F (vs.map fun x => kV x.1) ds)
theorem call_sortA (hc : X.calm = true) (hB : BX B X) (hu : X.A.units + 100 < cLine) : CallR X (.builtin "sorted") (rSortA B) := by
  intro pins s σ H xs us Q I r h
  obtain ⟨a, F, ds, rfl, f, hs, q, h⟩ := h
  rcases h with ⟨vs, hl, hr⟩ | ⟨ob, es, ha, hk, hr⟩ | ⟨vs, ha, hr⟩
  · exact call_sortL hB hu pins s σ H _ us Q I r ⟨a, F, vs, ds, rfl, f, hl, hr, hs, q⟩
  · obtain ⟨u, rfl, ru⟩ := r.one
    cases ru
    obtain ⟨⟨h1, h2, h3, es', ep, h4, h5, h6, _⟩, _⟩ := I.hok a _ ha
    have hsz : es'.size = es.length := by rw [← Array.length_toList, h6, List.length_map]
    refine sort_from hc hB hu I f (kdl_raw h2 h4 h5) h1 (by rw [hsz]; exact h3) (by rw [List.length_map, hsz]) (fun acc hacc => ?_) hr hs q
    have e : acc.toList = es.map fun x => Value.ref x.2.1 := by
      apply List.ext_getElem?
      intro i
      rw [Array.getElem?_toList, List.getElem?_map]
      cases e1 : acc[i]? with
      | none =>
        have : es.length ≤ i := by
          have := hacc.1
          have := Array.getElem?_eq_none_iff.mp e1
          omega
        rw [List.getElem?_eq_none this]; rfl
      | some v =>
        obtain ⟨en, e2, rfl⟩ := hacc.2 i v e1
        rw [← Array.getElem?_toList, h6, List.getElem?_map] at e2
        cases e3 : es[i]? with
        | none => rw [e3] at e2; cases e2
        | some x => rw [e3] at e2; cases e2; rfl
    rw [e]
    exact vals_ents es
  · obtain ⟨u, rfl, ru⟩ := r.one
    cases ru
    obtain ⟨z, lo, us, rel, dd⟩ := dk_of I.hok ha
    obtain ⟨ep, hat⟩ := dd.dictAt
    have hl : vs.length = us.length := Paired.length rel
    refine sort_from hc hB hu I f (PySem.W.kdl_dict (knd := mixKind X.prog X.w) (kvs := us) (ep := ep) lo) hat (by rw [← hl]; exact z) (by rw [List.length_map, hl]) (fun acc hacc => ?_) hr hs q
    have e : (vs.map fun x => kV x.1) = us.map fun p => kV p.1 := by
      have e1 : (vs.map fun x => kV x.1) = (vs.map (·.1)).map kV := by rw [List.map_map]; rfl
      have e2 : (us.map fun x => kV x.1) = (us.map (·.1)).map kV := by rw [List.map_map]; rfl
      rw [e1, e2, KV.keys rel]
    rw [e]
    exact keys_at (by rw [Array.length_toList, hacc.1]) fun j v h => hacc.2 j v (by rw [← Array.getElem?_toList]; exact h)
def keysOf (S : Sto) (x : Val) : Option (List D) := match look1 S x with
  | .lst xs => allD xs
  | .dct kvs => some (kvs.map fun kv => ofNK kv.1)
  | .dck kvs => some (kvs.map fun kv => ofK kv.1)
  | .frz (.lst ds) => some ds
  | .frz (.dct kvs) => some (kvs.map fun kv => ofNK kv.1)
  | .frz (.dck kvs) => some (kvs.map fun kv => ofK kv.1)
  | _ => none
def kSorted (xs : List Val) (S : Sto) : Out Val := match xs with
  | [x] => (match keysOf S x with
    | some ds => if sortable ds = true then .ok (.d (.lst (sortS leD ds))) S else .bad
    | none => .bad)
  | _ => .bad
theorem p_sorted (hB : BX B X) : PrimA B W (rSortA B) kSorted := by
  intro Hk σ m F S H vs xs Q R rs p
  cases rs with
  | nil => exact False.elim p
  | cons r1 rs =>
    cases rs with
    | cons _ _ => exact False.elim p
    | nil =>
      rename_i v x
      simp only [kSorted] at p
      cases e : keysOf S x with
      | none => rw [e] at p; exact False.elim p
      | some ds =>
        rw [e] at p
        dsimp only at p
        by_cases hs : sortable ds = true
        · rw [if_pos hs] at p
          have Rs := res_of R p
          have fin : ∀ ws p, Rels B F ws (sortS leD ds) → H p = none → Q (.ref p) (upd H p (.lst ws)) := fun ws p h hp => Rs.new p _ hp (.lst (.inl upd_same) (h.mono (same_own (R.none hp))))
          have D1 : ∀ {d : D} {a : Addr}, Rel B F (.ref a) d → (match d with
              | .lst l => some l
              | .dct kvs => some (kvs.map fun kv => ofNK kv.1)
              | .dck kvs => some (kvs.map fun kv => ofK kv.1)
              | _ => none) = some ds → rSortA B [.ref a] H Q := fun {d a} r h => by
            cases r with
            | lst q r => cases h; exact ⟨_, F, _, rfl, R.froz, hs, fin, .inl ⟨_, Rd.same R.froz q, r⟩⟩
            | dct q r => cases h; exact ⟨_, F, _, rfl, R.froz, hs, fin, .inr (.inl ⟨_, _, R.froz _ _ q, (r.mono R.froz).keys, keys_relD r⟩)⟩
            | dck q r => cases h; exact ⟨_, F, _, rfl, R.froz, hs, fin, .inr (.inr ⟨_, R.froz _ _ q, keys_relKD r⟩)⟩
            | tup _ _ => cases h
            | opq _ => cases h
          rcases look1_rel R r1 with ⟨n, a, rfl, rfl, hn, c⟩ | ⟨d, rfl, r2⟩
          · unfold keysOf at e
            generalize look1 S (.r n) = cell at e c
            cases cell with
            | lst xs =>
              obtain ⟨_, us, h1, h2⟩ := c
              exact ⟨a, F, ds, rfl, R.froz, hs, fin, .inl ⟨us, .inl h1, allD_rels h2 e⟩⟩
            | dct kvs =>
              obtain ⟨_, ob, es, h1, h2⟩ := c
              cases e
              exact ⟨a, F, _, rfl, R.froz, hs, fin, .inr (.inl ⟨ob, es, h1, fun x hx => let ⟨p, r⟩ := h2.keys x hx; ⟨p.mono R.froz, r⟩, keys_rel h2⟩)⟩
            | dck kvs =>
              obtain ⟨_, us, h1, h2⟩ := c
              cases e
              exact ⟨a, F, _, rfl, R.froz, hs, fin, .inr (.inr ⟨us, h1, keys_relK h2⟩)⟩
            | frz d =>
              refine D1 (d := d) c ?_
              cases d <;> first | exact e | cases e
            | _ => cases e
          · unfold keysOf at e
            simp only [look1] at e
            have hv : ∃ a, v = .ref a := by cases r2 <;> first | exact ⟨_, rfl⟩ | cases e
            obtain ⟨a, rfl⟩ := hv
            refine D1 (d := d) r2 ?_
            cases d <;> first | exact e | cases e
        · rw [if_neg hs] at p; exact False.elim p
end
end Dn

set_option Elab.async false
set_option linter.all false
set_option maxRecDepth 100000
set_option maxHeartbeats 2000000
/-! Dn: what every derivation needs; some more operators. -/
namespace Dn
open PySem L2 PyProof.Rows

structure CtxOk (B : Bs) (X : Cx) (W : WX) (k : Nat) : Prop where
  bx : BX B X
  calm : X.calm = true
  nd : X.N.Nodup
  hu : X.A.units + 100 < cLine
  tk : L2N.Takes X W
  po : PassesOwn (model X.prog X.w) X.A X.env X.xe
  rm : Room k X.A
theorem ctx_of {B : Bs} {P : Program} {w : World} {K : PySem.W.Frag} {mg : Str → Option Value} {base : Heap} {N : List Str} {qual : Str} {scope : Scope} {f : Addr} {cd : Value} {A : Around} {outer : List Env} {s : Shared} {H : Hp} {E : XK} {k : Nat} (hB : BX B (cxOf (L2N.CX P w) P w K mg base N qual scope f cd A outer s H E)) (hN : N.Nodup)
    (hr : Room k (A.deeper (envOfC qual scope s.heap.objs.size f cd))) : CtxOk B (cxOf (L2N.CX P w) P w K mg base N qual scope f cd A outer s H E) (wE E) k where
  bx := hB
  calm := rfl
  nd := hN
  hu := by have := hr.un; show (A.deeper (envOfC qual scope s.heap.objs.size f cd)).units + 100 < cLine; omega
  tk := L2N.takes_of rfl rfl rfl rfl
  po := passes_of rfl
  rm := hr
/-- a constant of the top -/
def GC (B : Bs) (x : Str) (d : D) : Prop := ∃ v u, B.mg x = some u ∧ RelV v u ∧ ∀ F, Rel B F v d
section
variable {X : Cx} {B : Bs} {W : WX}
theorem de_gc {x : Str} {pos : Pos} {d : D} (hB : BX B X) (h : GC B x d) (hg : Gl X x := by rfl) (hdb : (x == ("__debug__" : Str)) = false := by decide) : PE X (.Name x pos) (denE B W (dC d)) := by
  obtain ⟨v, u, h1, h2, h3⟩ := h
  exact de_glob hg (by rw [← hB.mg]; exact h1) h2 h3 hdb
/-! ### lists and tuples, repeated -/
def rRepR : R2 := fun x y H Q => ∃ l k xs, x = .ref l ∧ y = .int k ∧ Rd H l (.lst xs) ∧ -(2 ^ 63) ≤ k ∧ k < 2 ^ 63 ∧ xs.length * k.toNat ≤ sizeLine ∧ ∀ p, H p = none → Q (.ref p) (upd H p (.lst (List.replicate k.toNat xs).flatten))
theorem op_repR : OpR X (binaryOp .Mult) rRepR := by
  intro pins s σ H x y v u Q I rx ry h
  obtain ⟨l, k, xs, rfl, rfl, hH, h1, h2, hz, q⟩ := h
  cases rx
  obtain ⟨t, rfl⟩ := ry
  obtain ⟨z, its, n, r, e⟩ := hH.ok I.hok
  have hl := r.length
  have hlen : its.toArray.size * k.toNat ≤ sizeLine := by rw [List.size_toArray, ← hl]; exact hz
  have hcap : ¬ its.toArray.size * k.toNat > (2 ^ 63 - 1) / 8 := by
    have hq : (sizeLine : Nat) ≤ (2 ^ 63 - 1) / 8 := by decide
    omega
  have hfit : ¬ (!Builtin.List.listFitsIndex k) = true := by rw [fitsIndex_both h1 h2]; simp
  have hlong : ¬ Builtin.List.listTooLong (its.toArray.size * k.toNat) = true := by rw [notLongL hlen]; simp
  have f0 : ∀ m : Nat, List.foldl (fun x1 x2 => x1 ++ x2) #[] (List.replicate m its.toArray) = (List.replicate m its).flatten.toArray := fun m => by have := foldl_rep its m []; rw [List.nil_append] at this; exact this
  have hnew : List.foldl (fun x1 x2 => x1 ++ x2) #[] (List.replicate (if its.toArray.isEmpty = true then 0 else k.toNat) its.toArray) = (List.replicate k.toNat its).flatten.toArray := by
    rw [f0]
    cases its with
    | nil => simp
    | cons a rr => rw [if_neg (by simp)]
  refine wpAny_binaryOp_repeat_ref (T := "list") (U := "int") (by decide) ⟨_, e, rfl⟩ (fun s' => typeIs_int s' k t) noFill_list_mul F.fills_int_mul F.slot_int_rmul repeat_list F.slot_int_index.lookup (call_meets F.slot_int_rmul (typeIs_int s k t) F.entry_int_rmul (F.args_int_rmul_2 _ _) (int___rmul___int_list k t l its.toArray n)
      ⟨e, rfl, ⟨_, e, rfl⟩, call_meets F.slot_list_mul ⟨_, e, rfl⟩ F.entry_list_mul (F.args_list_mul_2 _ _) (AutoListH.list___mul___list_int_3 l its.toArray n k t hfit hcap hlong) ⟨e, ?_⟩⟩)
  rw [hnew]
  exact ⟨.ref _, _, I.lnew (t' := s.toks) (r.rep k.toNat) (by rw [PyProof.Rows.lm_len_rep_flat, Nat.mul_comm]; exact hz), rfl, q _ I.fresh⟩
def repD : D → D → Option D
  | .lst a, .int k => if decide (a.length * k.toNat ≤ 16777216) && decide (k < 1000000) && decide (-1000000 < k) then some (.lst (List.replicate k.toNat a).flatten) else none
  | .tup a, .int k => if decide (2 ≤ k) && decide (k ≤ 1000) && decide (1 ≤ a.length) && decide (a.length ≤ 1000) then some (.tup (List.replicate k.toNat a).flatten) else none
  | _, _ => none
def rRepAll (K : PySem.W.Frag) : R2 := fun x y H Q => rRepR x y H Q ∨ rRepT K x y H Q
theorem op_repAll : OpR X (binaryOp .Mult) (rRepAll X.K) := op_repR.or op_repT
theorem Rels.rep {F : Hp} {vs : List V} {ds : List D} (h : Rels B F vs ds) : ∀ k : Nat, Rels B F (List.replicate k vs).flatten (List.replicate k ds).flatten
  | 0 => .nil
  | k + 1 => by
    rw [List.replicate_succ, List.replicate_succ, List.flatten_cons, List.flatten_cons]
    exact h.append (Rels.rep h k)
theorem p_rep (hB : BX B X) : Prim2 B W (rRepAll X.K) (rd2 repD) := prim2_rd fun F H v w a b z Q f l1 l2 e R => by
  cases l1 with
  | lst q r =>
    cases l2 with
    | int k =>
      simp only [repD, Bool.and_eq_true, decide_eq_true_eq] at e
      split at e
      · rename_i hz
        cases e
        refine .inl ⟨_, k, _, rfl, rfl, q, by omega, by omega, by rw [r.len, szl]; exact hz.1.1, fun p hp => R.new p _ hp (.lst (.inl upd_same) ((r.rep k.toNat).mono (same_own (f.free hp))))⟩
      · cases e
    | _ => cases e
  | tup q r =>
    cases l2 with
    | int k =>
      simp only [repD, Bool.and_eq_true, decide_eq_true_eq] at e
      split at e
      · rename_i hz
        cases e
        refine .inr ⟨_, k, _, rfl, rfl, hB.K ▸ SqT.same f q, fun h => ?_, hz.1.1.1, hz.1.1.2, by rw [r.len]; exact hz.2, fun p hp => R.new p _ hp (.tup (SqT.of upd_same) ((r.rep k.toNat).mono (same_own (f.free hp))))⟩
        have := r.len
        rw [h] at this
        simp at this
        omega
      · cases e
    | _ => cases e
  | _ => cases b <;> cases e

/-! ### dicts of the top -/
/-- x[k], x a dict of the top with text keys -/
def kdLook (kvs : List (List Nat × D)) (s : List Nat) : Option D := (kvs.find? fun kv => kv.1 == s).map (·.2)
def KD (B : Bs) (w : World) (x : Str) (kvs : List (List Nat × D)) : Prop := ∃ a, B.mg x = some (.ref a) ∧ ∀ s d, kdLook kvs s = some d → ∃ v, KDct B.K w a ⟨s.toArray⟩ v ∧ ∀ F, Rel B F v d
def dKD (kvs : List (List Nat × D)) (f : DE) : DE := d1 f fun x S => match asD S x with
  | some (.str s) => Out.of ((kdLook kvs s).map .d) S
  | _ => .bad
theorem de_kd {x : Str} {p pos : Pos} {e : Expr} {f : DE} {kvs : List (List Nat × D)} (hB : BX B X) (h : KD B X.w x kvs) (he : PE X e (denE B W f)) (hs : PlainIx e := by exact fun _ _ => rfl) (hg : Gl X x := by rfl) (hdb : (x == ("__debug__" : Str)) = false := by decide) :
    PE X (.Subscript (.Name x p) e pos) (denE B W (dKD kvs f)) := by
  obtain ⟨a, h1, h2⟩ := h
  refine PE_weak (pe_ix (ix_kdict (X := X)) (pe_glob (v := .ref a) (u := .ref a) hg (by rw [← hB.mg]; exact h1) rfl hdb) he hs) fun σ H Q q => ?_
  show denE B W f σ H fun y H1 => rIxD X.K X.w (.ref a) y H1 Q
  refine w_d1 (r := fun y H1 Q => rIxD X.K X.w (.ref a) y H1 Q) (fun Hk σ m F S H v x Q R r p => ?_) q
  split at p
  · rename_i s hx
    have l := look R r hx
    cases l
    cases e : kdLook kvs s with
    | none => rw [e] at p; exact False.elim p
    | some d =>
      rw [e] at p
      obtain ⟨v, k1, k2⟩ := h2 s d e
      exact ⟨a, _, v, rfl, rfl, hB.K ▸ k1, p v H m F R (Grow.refl _ _ _) (.d (k2 F))⟩
  · exact False.elim p

/-! ### x[::-1] -/
theorem de_revL {e : Expr} {f : DE} {k : Nat} {p1 p2 p3 pos : Pos} (hB : BX B X) (he : PE X e (denE B W f)) : PE X (.Subscript e (.Slice none none (some (.UnaryOp .USub (.Constant (.int 1) k p1) p2)) p3) pos) (denE B W (d1 f (rd1 fun d => match d with | .lst xs => some (.lst xs.reverse) | _ => none))) :=
  PE_weak (pe_revL he) fun σ H Q q => w_d1 (r := fun x H1 Q => ∃ a xs, x = .ref a ∧ SqL X.K H1 a xs ∧ ∀ p, H1 p = none → Q (.ref p) (upd H1 p (.lst xs.reverse))) (prim1_rd fun F H v a z Q f l e R => by
    cases l with
    | lst q r => cases e; exact ⟨_, _, rfl, .inl q, fun p hp => R.new p _ hp (.lst (.inl upd_same) (r.reverse.mono (same_own (f.free hp))))⟩
    | _ => cases e) q
end
end Dn

set_option Elab.async false
set_option linter.all false
set_option maxRecDepth 100000
set_option maxHeartbeats 2000000
/-! Dn: subscripts and "in" over cells. -/
namespace Dn
open PySem L2 PyProof.Rows

section
variable {X : Cx} {B : Bs} {W : WX}
def KeysOk (B : Bs) (H : Hp) (es : List Ent) : Prop := ∀ x ∈ es, Rel B H (.ref x.2.1) (ofNK x.1) ∧ x.1.depth ≤ 8
def rIxM (B : Bs) : R2 := fun x y H Q => ∃ q a o es k v, x = .ref a ∧ y = .ref q ∧ H a = some (dN B.P B.w a o es) ∧ KeysOk B H es ∧ Rel B H (.ref q) (ofNK k) ∧ k.depth ≤ 8 ∧ (∃ p, atKey es k = some p ∧ RelV v p.2) ∧ Q v H
theorem ix_M (hB : BX B X) (hu : X.A.units + 100 < cLine) : IxR X (rIxM B) := by
  intro value slice pins s σ H x y v u Q I rx ry h hs
  obtain ⟨q, a, o, es, k, v', rfl, rfl, ha, he, hk, hd, ⟨p, hp, hv⟩, hq⟩ := h
  cases rx
  cases ry
  obtain ⟨h1, h2, h3⟩ := dN_at hB I ha he
  exact tail_any h1.typeIs slot_dict_getitem.lookup (wpAny_getItem_heap (knd := nestedKind X.prog X.w) (by show X.A.units + 1 + 8 < cLine; omega) (key_is hB I hk hd) h1 hp ⟨v', H, I.tok _, hv, hq⟩) hs
def rIxC (B : Bs) (K : PySem.W.Frag) : R2 := fun x y H Q => rIxAll B K x y H Q ∨ rIxM B x y H Q
theorem ix_C (hB : BX B X) (hu : X.A.units + 100 < cLine) : IxR X (rIxC B X.K) := (ix_all hB hu).or (ix_M hB hu)
def ixV (S : Sto) (a : D) (y : Val) : Option Val := (asD S y).bind fun b => (ixD a b).map Val.d
def ixL (S : Sto) (xs : List Val) (y : Val) : Option Val := (asD S y).bind fun b => match b with
  | .int i => L2.atI xs i
  | _ => none
def kIx (x y : Val) (S : Sto) : Out Val := match look1 S x with
  | .frz a => Out.of (ixV S a y) S
  | .lst xs => Out.of (ixL S xs y) S
  | .tup xs => Out.of (ixL S xs y) S
  | .dct kvs => Out.of ((asD S y).bind fun b => (keyT b).bind fun k => getT kvs k) S
  | .dck kvs => Out.of ((asD S y).bind fun b => (keyK b).bind fun k => getK kvs k) S
  | .obj _ _ => .bad
  | .lck kvs => Out.of ((asD S y).bind fun b => (keyK b).bind fun k => getK kvs k) S
theorem RelXs.at {m : List Addr} {F : Hp} {vs : List V} {ds : List Val} {i : Int} {d : Val} (h : RelXs B m F vs ds) (e : L2.atI ds i = some d) : ∃ v, L2.atI vs i = some v ∧ RelX B m F v d := by
  unfold L2.atI at e ⊢
  rw [h.len]
  cases q : L2.ixN ds.length i with
  | none => rw [q] at e; cases e
  | some j => rw [q] at e; exact h.get e
theorem KvXs.get {m : List Addr} {F : Hp} {k : Key} : ∀ {vs : List (Key × V)} {kvs : List (Key × Val)}, KvXs B m F vs kvs → (∀ d, getK kvs k = some d → ∃ v, valV vs k = some v ∧ RelX B m F v d) ∧ (getK kvs k = none → valV vs k = none)
  | _, _, .nil => ⟨fun _ e => by simp [getK] at e, fun _ => rfl⟩
  | _, _, .cons (k := k') (v := v') (x := d') h t => by
    obtain ⟨i1, i2⟩ := KvXs.get (k := k) t
    by_cases e : k' = k
    · subst e
      refine ⟨fun d h2 => ?_, fun h2 => ?_⟩
      · simp [getK] at h2
        subst h2
        exact ⟨v', valV_pos rfl, h⟩
      · simp [getK] at h2
    · have g : ∀ l : List (Key × Val), getK ((k', d') :: l) k = getK l k := fun l => by simp [getK, e]
      rw [g, valV_neg (p := (k', v')) (show ¬ (k', v').1 = k from e)]
      exact ⟨i1, i2⟩
theorem of_post {Hk : Hp} {σ : L2.St} {m : List Addr} {F H : Hp} {S : Sto} {o : Option Val} {Q : VK} (p : post B W (relE B) Hk σ m F H (Out.of o S) Q) : ∃ z, o = some z ∧ post B W (relE B) Hk σ m F H (.ok z S) Q := by
  cases o with
  | none => exact False.elim p
  | some z => exact ⟨z, rfl, p⟩
theorem p_ixC (hB : BX B X) : Prim2 B W (rIxC B X.K) kIx := by
  intro Hk σ m F S H v w x y Q R rx ry p
  have data : ∀ {a : D}, RelX B m F v (.d a) → post B W (relE B) Hk σ m F H (Out.of (ixV S a y) S) Q → rIxC B X.K v w H Q := fun {a} ra p => by
    obtain ⟨z, e, p⟩ := of_post p
    obtain ⟨b, hb, e⟩ := Option.bind_eq_some_iff.mp e
    obtain ⟨z', hz, rfl⟩ := Option.map_eq_some_iff.mp e
    cases ra with
    | d ra => exact .inl (look_ix hB R.froz (Look.of_rel R.froz ra) (look R ry hb) hz (res_of R p))
  unfold kIx at p
  rcases look1_rel R rx with ⟨n, a, rfl, rfl, hn, c⟩ | ⟨d, rfl, r2⟩
  · generalize look1 S (.r n) = cell at p c
    cases cell with
    | lst xs =>
      obtain ⟨z, e, p⟩ := of_post p
      obtain ⟨_, vs, h1, h2⟩ := c
      obtain ⟨b, hb, e⟩ := Option.bind_eq_some_iff.mp e
      cases b with
      | int i =>
        obtain ⟨u, hu, ru⟩ := h2.at e
        have l := look R ry hb
        cases l
        exact .inl (.inl (.inl ⟨_, _, _, _, rfl, rfl, .inl (.inl h1), hu, p u H m F R (Grow.refl _ _ _) ru⟩))
      | _ => cases e
    | tup xs =>
      obtain ⟨z, e, p⟩ := of_post p
      obtain ⟨_, vs, h1, h2⟩ := c
      obtain ⟨b, hb, e⟩ := Option.bind_eq_some_iff.mp e
      cases b with
      | int i =>
        obtain ⟨u, hu, ru⟩ := h2.at e
        have l := look R ry hb
        cases l
        exact .inl (.inl (.inr (.inl ⟨_, _, _, _, rfl, rfl, SqT.of h1, hu, p u H m F R (Grow.refl _ _ _) ru⟩)))
      | _ => cases e
    | dct kvs =>
      obtain ⟨z, e, p⟩ := of_post p
      obtain ⟨_, ob, es, h1, h2⟩ := c
      obtain ⟨b, hb, e⟩ := Option.bind_eq_some_iff.mp e
      obtain ⟨k, hk, e⟩ := Option.bind_eq_some_iff.mp e
      obtain ⟨q, rfl, h3, h4⟩ := keyT_of hk ((look R ry hb).rel R.froz)
      obtain ⟨q', u', v', g1, g2, g3⟩ := h2.get.1 z e
      exact .inr ⟨q, a, ob, es, k, v', rfl, rfl, h1, fun x hx => let ⟨p, r⟩ := h2.keys x hx; ⟨p.mono R.froz, r⟩, h3, h4, ⟨_, g1, g2⟩, p v' H m F R (Grow.refl _ _ _) g3⟩
    | dck kvs =>
      obtain ⟨z, e, p⟩ := of_post p
      obtain ⟨_, us, h1, h2⟩ := c
      obtain ⟨b, hb, e⟩ := Option.bind_eq_some_iff.mp e
      obtain ⟨k, hk, e⟩ := Option.bind_eq_some_iff.mp e
      have := keyK_of hk ((look R ry hb).rel R.froz)
      subst this
      obtain ⟨u, g1, g2⟩ := h2.get.1 z e
      exact .inl (.inr (.inr ⟨a, u, rfl, by rw [← g1]; exact DGet.k h1, p u H m F R (Grow.refl _ _ _) g2⟩))
    | frz d => exact data (a := d) (.d c) p
    | obj _ _ => exact False.elim p
    | lck kvs =>
      obtain ⟨z, e, p⟩ := of_post p
      obtain ⟨o, us, h1, h2⟩ := c
      obtain ⟨b, hb, e⟩ := Option.bind_eq_some_iff.mp e
      obtain ⟨k, hk, e⟩ := Option.bind_eq_some_iff.mp e
      have := keyK_of hk ((look R ry hb).rel R.froz)
      subst this
      obtain ⟨u, g1, g2⟩ := h2.get.1 z e
      exact .inl (.inr (.inr ⟨a, u, rfl, by rw [← g1]; exact .inl ⟨us, k, .inr ⟨o, R.froz _ _ h1⟩, rfl, rfl⟩, p u H m F R (Grow.refl _ _ _) g2⟩))
  · exact data (a := d) (.d r2) p

/-! ### in -/
def rInM (B : Bs) (neg : Bool) : R2 := fun x y H Q => ∃ q a o es k, x = .ref q ∧ y = .ref a ∧ H a = some (dN B.P B.w a o es) ∧ KeysOk B H es ∧ Rel B H (.ref q) (ofNK k) ∧ k.depth ≤ 8 ∧ Q (.bl (if neg then !(atKey es k).isSome else (atKey es k).isSome)) H
theorem op_inM (hB : BX B X) (hu : X.A.units + 100 < cLine) : OpR X (compareOp .In) (rInM B false) := by
  intro pins s σ H x y v u Q I rx ry h
  obtain ⟨q, a, o, es, k, rfl, rfl, ha, he, hk, hd, hq⟩ := h
  cases rx
  cases ry
  obtain ⟨h1, h2, h3⟩ := dN_at hB I ha he
  exact wpAny_in_heap (knd := nestedKind X.prog X.w) (by show X.A.units + 1 + 8 < cLine; omega) (key_is hB I hk hd) h2 h1 ⟨.bl _, H, I.tok _, rfl, hq⟩
theorem op_notInM (hB : BX B X) (hu : X.A.units + 100 < cLine) : OpR X (compareOp .NotIn) (rInM B true) := by
  intro pins s σ H x y v u Q I rx ry h
  obtain ⟨q, a, o, es, k, rfl, rfl, ha, he, hk, hd, hq⟩ := h
  cases rx
  cases ry
  obtain ⟨h1, h2, h3⟩ := dN_at hB I ha he
  show wpAny _ _ (do return Value.bool (!(← contains (.ref a) (.ref q)))) _ _ s
  exact wpAny_bind (wpAny_contains_heap (knd := nestedKind X.prog X.w) (by show X.A.units + 1 + 8 < cLine; omega) (key_is hB I hk hd) h2 h1 (wpAny_pure ⟨.bl _, H, I.tok _, rfl, hq⟩))
def rInC (B : Bs) (K : PySem.W.Frag) (neg : Bool) : R2 := fun x y H Q => rInAll B K neg x y H Q ∨ rInM B neg x y H Q
theorem op_inC (hB : BX B X) (hu : X.A.units + 100 < cLine) : OpR X (compareOp .In) (rInC B X.K false) := OpR.or (op_inAll hB hu) (op_inM hB hu)
theorem op_notInC (hB : BX B X) (hu : X.A.units + 100 < cLine) : OpR X (compareOp .NotIn) (rInC B X.K true) := OpR.or (op_notInAll hB hu) (op_notInM hB hu)
def inV (neg : Bool) (b : Bool) : Val := .d (.bl (if neg then !b else b))
def kIn (neg : Bool) (x y : Val) (S : Sto) : Out Val := match look1 S y with
  | .dct kvs => Out.of ((asD S x).bind fun b => (keyT b).map fun k => inV neg (getT kvs k).isSome) S
  | .dck kvs => Out.of ((asD S x).bind fun b => (keyK b).map fun k => inV neg (getK kvs k).isSome) S
  | _ => Out.of ((asD S x).bind fun a => (asD S y).bind fun b => (inD a b).map fun c => inV neg c) S
theorem p_inC (hB : BX B X) (neg : Bool) : Prim2 B W (rInC B X.K neg) (kIn neg) := by
  intro Hk σ m F S H v w x y Q R rx ry p
  have fin : ∀ {c : Bool}, post B W (relE B) Hk σ m F H (.ok (inV neg c) S) Q → Q (.bl (if neg then !c else c)) H := fun {c} p => p _ H m F R (Grow.refl _ _ _) (.d (.bl _))
  have gen : post B W (relE B) Hk σ m F H (Out.of ((asD S x).bind fun a => (asD S y).bind fun b => (inD a b).map fun c => inV neg c) S) Q → rInC B X.K neg v w H Q := fun p => by
    obtain ⟨z, e, p⟩ := of_post p
    obtain ⟨a, ha, e⟩ := Option.bind_eq_some_iff.mp e
    obtain ⟨b, hb, e⟩ := Option.bind_eq_some_iff.mp e
    obtain ⟨c, hc, rfl⟩ := Option.map_eq_some_iff.mp e
    exact .inl (look_in hB R.froz (look R rx ha) (look R ry hb) hc (fin p))
  unfold kIn at p
  rcases look1_rel R ry with ⟨n, a, rfl, rfl, hn, c⟩ | ⟨d, rfl, r2⟩
  · generalize look1 S (.r n) = cell at p c
    cases cell with
    | dct kvs =>
      obtain ⟨z, e, p⟩ := of_post p
      obtain ⟨_, ob, es, h1, h2⟩ := c
      obtain ⟨b, hb, e⟩ := Option.bind_eq_some_iff.mp e
      obtain ⟨k, hk, rfl⟩ := Option.map_eq_some_iff.mp e
      obtain ⟨q, rfl, h3, h4⟩ := keyT_of hk ((look R rx hb).rel R.froz)
      refine .inr ⟨q, a, ob, es, k, rfl, rfl, h1, fun x hx => let ⟨p, r⟩ := h2.keys x hx; ⟨p.mono R.froz, r⟩, h3, h4, ?_⟩
      rw [h2.mem, any_get]
      exact fin p
    | dck kvs =>
      obtain ⟨z, e, p⟩ := of_post p
      obtain ⟨_, us, h1, h2⟩ := c
      obtain ⟨b, hb, e⟩ := Option.bind_eq_some_iff.mp e
      obtain ⟨k, hk, rfl⟩ := Option.map_eq_some_iff.mp e
      have := keyK_of hk ((look R rx hb).rel R.froz)
      subst this
      refine .inl (.inr (.inr (.inr (.inr ⟨a, _, rfl, DGet.k h1, ?_⟩))))
      have hh : (valV us k).isSome = (getK kvs k).isSome := by
        obtain ⟨g1, g2⟩ := h2.get (k := k)
        cases e : getK kvs k with
        | none => rw [g2 e]; rfl
        | some d => obtain ⟨u, e1, _⟩ := g1 d e; rw [e1]; rfl
      rw [hh]
      exact fin p
    | _ => exact gen p
  · exact gen p
end
end Dn

set_option Elab.async false
set_option linter.all false
set_option maxRecDepth 100000
set_option maxHeartbeats 2000000
/-! Dn: bundles: a def, a method, a class, by what a caller needs. -/
namespace Dn
open PySem L2 PyProof.Rows

section
variable {P : Program} {w : World} {K : PySem.W.Frag} {mg : Str → Option Value} {base : Heap}
structure FnB (P : Program) (w : World) (K : PySem.W.Frag) (mg : Str → Option Value) (base : Heap) (k : Nat) (x : Str) (ps : List Str) (sp : Sp) : Prop where
  ex : ∃ f fd, FnOk P w K mg base (L2N.CX P w) k f fd ps sp ∧ mg x = some (.ref f) ∧ PySem.W.keepIn K (.ref f) = true ∧ L2.Binds K fd ps []
structure MtB (P : Program) (w : World) (K : PySem.W.Frag) (mg : Str → Option Value) (base : Heap) (k : Nat) (C : Addr) (x : Str) (ps : List Str) (sp : Sp) : Prop where
  ex : ∃ f fd, FnOk P w K mg base (L2N.CX P w) k f fd ps sp ∧ Meth K C x f ∧ L2.Binds K fd ps []
structure MkB (P : Program) (w : World) (K : PySem.W.Frag) (mg : Str → Option Value) (base : Heap) (k : Nat) (C : Addr) (x : Str) (ps : List Str) (sp : Sp) : Prop where
  ex : ∃ f fd, FnOk P w K mg base (L2N.CX P w) k f fd ps sp ∧ Mk K C f ∧ mg x = some (.ref C) ∧ L2.Binds K fd ps []
/-- a class with its attributes -/
structure ClB (B : Bs) (c nf : Nat) : Prop where
  cl : Cls B.K (B.clA c)
  nf : (B.fN c).length = nf
  nd : (B.fN c).Nodup
  at_ : ∀ f ∈ B.fN c, NoAttr B.K (B.clA c) f
theorem ClB.has {B : Bs} {c nf i : Nat} {f : Str} (h : ClB B c nf) (hi : (B.fN c)[i]? = some f) : NoAttr B.K (B.clA c) f := h.at_ f (List.mem_of_getElem? hi)
end
section
variable {X : Cx} {B : Bs} {W : WX} {k j n : Nat} {x m : Str} {ps : List Str} {p pos apos : Pos} {e o : Expr} {es : List Expr} {fa : DA} {fo : DE}
theorem cb_call {Fp : List D → Ret} (c : CtxOk B X W k) (h : FnB X.prog X.w X.K X.mg X.base j x ps (spP B n Fp)) (hj : j ≤ k) (ha : PA X (e :: es) (denA B W fa)) (hl : lenA fa n) (hg : Gl X x := by rfl) (hdb : (x == ("__debug__" : Str)) = false := by decide)
    (he : starEach (e :: es) X.env = (false, eval e X.env) :: starEach es X.env := by rfl) (hpl : (backTo pos (starEach es X.env)).any (·.1) = false := by rfl) : PE X (.Call (.Name x p) (e :: es) [] pos) (denE B W (dCall Fp fa)) := by
  obtain ⟨f, fd, h1, h2, h3, h4⟩ := h.ex
  exact de_call c.tk h1 (c.rm.mono hj) h2 h3 h4 hg ha hl hdb he hpl
theorem cb_meth {Fm : List Val → Sto → Out Val} {c0 nf : Nat} {pl : Sem Bool} (c : CtxOk B X W k) (C : ClB B c0 nf) (h : MtB X.prog X.w X.K X.mg X.base j (B.clA c0) m ps (spM B (n + 1) Fm)) (hj : j ≤ k) (he : PE X o (denE B W fo)) (ha : PA X (e :: es) (denA B W fa)) (hl : lenA fa n) (hno : m ∉ B.fN c0)
    (hst : starEach (e :: es) X.env = (false, eval e X.env) :: starEach es X.env := by rfl) (hpl : (backTo pos (starEach es X.env)).any (·.1) = false := by rfl)
    (ht : eval (.Call (.Attribute o m apos) (e :: es) [] pos) X.env = (do let ov ← eval o X.env; standAt apos.atName; let (f, first) ← holding [ov] (getMethod ov m pl); callWith pos f first (backTo pos (starEach (e :: es) X.env)) (backToKw pos (keywordEach [] X.env))) := by rfl) :
    PE X (.Call (.Attribute o m apos) (e :: es) [] pos) (denE B W (dMeth Fm c0 fo fa)) := by
  obtain ⟨f, fd, h1, h2, h4⟩ := h.ex
  exact de_meth c.tk he (c.bx.K ▸ C.cl) h2 h1 (c.rm.mono hj) h4 ha hl hno hst hpl ht
theorem cb_meth0 {Fm : List Val → Sto → Out Val} {c0 nf : Nat} {pl : Sem Bool} (c : CtxOk B X W k) (C : ClB B c0 nf) (h : MtB X.prog X.w X.K X.mg X.base j (B.clA c0) m ps (spM B 1 Fm)) (hj : j ≤ k) (he : PE X o (denE B W fo)) (hno : m ∉ B.fN c0)
    (ht : eval (.Call (.Attribute o m apos) [] [] pos) X.env = (do let ov ← eval o X.env; standAt apos.atName; let (f, first) ← holding [ov] (getMethod ov m pl); callWith pos f first (backTo pos (starEach [] X.env)) (backToKw pos (keywordEach [] X.env))) := by rfl) :
    PE X (.Call (.Attribute o m apos) [] [] pos) (denE B W (dMeth Fm c0 fo aNil)) := by
  obtain ⟨f, fd, h1, h2, h4⟩ := h.ex
  exact de_meth0 c.tk he (c.bx.K ▸ C.cl) h2 h1 (c.rm.mono hj) h4 hno ht
theorem cb_new {Fm : List Val → Sto → Out Val} {c0 nf : Nat} (c : CtxOk B X W k) (C : ClB B c0 nf) (h : MkB X.prog X.w X.K X.mg X.base j (B.clA c0) x ps (spM B (n + 1) Fm)) (hj : j + 1 ≤ k) (ha : PA X (e :: es) (denA B W fa)) (hl : lenA fa n) (hnf : nf ≤ 50 := by decide) (hg : Gl X x := by rfl) (hdb : (x == ("__debug__" : Str)) = false := by decide)
    (he : starEach (e :: es) X.env = (false, eval e X.env) :: starEach es X.env := by rfl) (hpl : (backTo pos (starEach es X.env)).any (·.1) = false := by rfl) : PE X (.Call (.Name x p) (e :: es) [] pos) (denE B W (dNew c0 nf Fm fa)) := by
  obtain ⟨f, fd, h1, h2, h3, h4⟩ := h.ex
  exact de_new c.tk h2 h1 (c.rm.mono hj) hg h3 h4 ha hl C.nf hnf hdb he hpl
theorem cb_fld {c0 nf i : Nat} {f : Str} (c : CtxOk B X W k) (C : ClB B c0 nf) (hi : (B.fN c0)[i]? = some f) (he : PE X o (denE B W fo)) (hb : attributeBase o f X.env (eval o X.env) = eval o X.env := by rfl) : PE X (.Attribute o f pos) (denE B W (dFld c0 i fo)) := de_fld i he (c.bx.K ▸ C.cl) (c.bx.K ▸ C.has hi) hi hb
theorem cg_fld {c0 nf i : Nat} {f : Str} (q : Nat) (c : CtxOk B X W k) (C : ClB B c0 nf) (hi : (B.fN c0)[i]? = some f) (ho : PE X o (denE B W (dVar q))) : PG X (.Attribute o f pos) (denG B (nFld c0 i q)) := dg_fld c0 i q ho (c.bx.K ▸ C.cl) (c.bx.K ▸ C.has hi) hi C.nd
theorem CtxOk.blk {s : Shared} {H : Hp} {scope : Scope} {C : Addr} {cl : List (Str × Addr)} {fp : List Addr} (c : CtxOk B X W k) : CtxOk B (X.blk s H scope (compEnvC scope cl C X.env) fp) WF k where
  bx := c.bx.blk
  calm := c.calm
  nd := c.nd
  hu := c.hu
  tk := fun _ _ x => by
    obtain ⟨_, _, _, _, _, _, _, _, _, _, _, _, _, _, _, _, z⟩ := x
    exact z.elim
  po := PassesOwn.never
  rm := c.rm
end
end Dn

set_option Elab.async false
set_option linter.all false
set_option maxRecDepth 100000
set_option maxHeartbeats 2000000
/-! Dn: d == {}; list of a text; l.index. -/
namespace Dn
open PySem L2 PyProof.Rows

section
variable {prog : Program} {w : World} {A : Around} {E : Value → Shared → Prop} {s : Shared}
theorem same_empty {nm : String} {a b : Addr} {oa ob : Obj} {es es' : Array DictEntry} {ep ep' : Nat} {Q : Bool → Shared → Prop} (ha : (a == sysModules) = false) (hb : (b == sysModules) = false) (hoa : s.heap.get? a = some oa) (hda : oa.data = .dict es ep) (hob : s.heap.get? b = some ob) (hdb : ob.data = .dict es' ep')
    (h0 : es'.size = 0) (h : Q (es.size == 0) s) : wpAny (model prog w) A (Builtin.Dict.samePairs nm a b) Q E s := by
  unfold Builtin.Dict.samePairs Builtin.Dict.showsAll
  rw [if_neg (show ¬ (a == sysModules) = true by rw [ha]; simp), if_neg (show ¬ (b == sysModules) = true by rw [hb]; simp)]
  refine wpAny_bind (wpAny_pure (wpAny_bind (wpAny_pure (wpAny_bind (wpAny_dictEntries hoa hda ?_)))))
  dsimp only
  refine wpAny_bind (wpAny_dictEntries hob hdb ?_)
  by_cases hsz : es.size = es'.size
  · have hz : es.size = 0 := by omega
    rw [if_neg (by rw [hsz]; simp)]
    refine wpAny_bind (wpAny_dictEpoch hoa hda (wpAny_bind ?_))
    rw [Std.Legacy.Range.forIn_eq_forIn_range']
    simp only [Std.Legacy.Range.size, Nat.sub_zero, Nat.add_sub_cancel, Nat.div_one]
    rw [hz]
    refine wpAny_pure ?_
    rw [hz] at h
    exact wpAny_pure h
  · rw [if_pos (by simpa using hsz)]
    have hf : (es.size == 0) = false := by rw [beq_eq_false_iff_ne]; omega
    rw [hf] at h
    exact wpAny_bind (wpAny_rule (wpAny_pure h))
theorem eq_empty {a b : Addr} {oa ob : Obj} {es es' : Array DictEntry} {ep ep' : Nat} {Q : Value → Shared → Prop} (ha : (a == sysModules) = false) (hb : (b == sysModules) = false) (hoa : s.heap.get? a = some oa) (xa : oa.ExactDict) (hda : oa.data = .dict es ep) (hob : s.heap.get? b = some ob) (xb : ob.ExactDict) (hdb : ob.data = .dict es' ep')
    (h0 : es'.size = 0) (hu : A.units < cLine) (h : Q (.bool (es.size == 0)) s) : wpAny (model prog w) A (compareOp .Eq (.ref a) (.ref b)) Q E s := by
  have ta : s.TypeIs (.ref a) "dict" := ⟨oa, hoa, xa.1⟩
  have tb : s.TypeIs (.ref b) "dict" := ⟨ob, hob, xb.1⟩
  refine wpAny_richCompare_same_room (op := .Eq) ta tb PySem.F.slot_dict_eq (wpAny_call_entry PySem.F.slot_dict_eq ta PySem.F.entry_dict_eq ?_ (PySem.F.args_dict_eq_2 _ _)) hu
  show wpAny _ _ (Builtin.Dict.dictSlotArgs "__eq__" ⟨[.ref a, .ref b], []⟩ >>= _) _ _ s
  refine wpAny_bind ?_
  unfold Builtin.Dict.dictSlotArgs
  refine wpAny_bind (wpAny_notOrdered_dict ta ?_)
  show wpAny _ _ (pure (Value.ref a, Value.ref b)) _ _ s
  refine wpAny_pure (wpAny_bind (wpAny_isInstance (T := "dict") tb PySem.F.sub_dict_dict ?_))
  simp only [Bool.not_true, Bool.false_eq_true, if_false]
  refine wpAny_bind (wpAny_pure (wpAny_bind (wpAny_pure (wpAny_bind (same_empty ha hb hoa hda hob hdb h0 ?_)))))
  exact wpAny_pure ⟨_, rfl, (fun x => nomatch x), by simpa using h⟩
end
section
variable {X : Cx} {B : Bs} {W : WX}
/-- a dict as it stands -/
def AnyDct (B : Bs) (H : Hp) (a : Addr) (n : Nat) : Prop := (∃ ob es, H a = some (dN B.P B.w a ob es) ∧ es.length = n) ∨ ∃ vs, H a = some (.dK vs) ∧ vs.length = n
theorem anyDct_raw {pins : List (Addr × Obj)} {σ : L2.St} {H : Hp} {s : Shared} {a : Addr} {n : Nat} (I : Inv X pins σ H s) (h : AnyDct B H a n) : ∃ o es ep, (a == sysModules) = false ∧ s.heap.get? a = some o ∧ o.ExactDict ∧ o.data = .dict es ep ∧ es.size = n := by
  rcases h with ⟨ob, es, h, hn⟩ | ⟨vs, h, hn⟩
  · obtain ⟨⟨h1, h2, h3, es', ep, h4, h5, h6, _⟩, _⟩ := I.hok a _ h
    exact ⟨ob, es', ep, h2, h1, h4, h5, by rw [← Array.length_toList, h6, List.length_map]; exact hn⟩
  · obtain ⟨z, lo, us, rel, dd⟩ := dk_of I.hok h
    obtain ⟨o, es, ep, h1, h2, h3, _, h4, _⟩ := dd
    refine ⟨o, es, ep, lo, h1, h2, h3, ?_⟩
    have e1 : es.toList.length = us.length := h4.length
    have e2 : vs.length = us.length := Paired.length rel
    rw [← Array.length_toList]
    omega
def rEqE (B : Bs) : R2 := fun x y H Q => ∃ a b n, x = .ref a ∧ y = .ref b ∧ AnyDct B H a n ∧ AnyDct B H b 0 ∧ Q (.bl (n == 0)) H
theorem op_eqE (hu : X.A.units + 100 < cLine) : OpR X (compareOp .Eq) (rEqE B) := by
  intro pins s σ H x y v u Q I rx ry h
  obtain ⟨a, b, n, rfl, rfl, h1, h2, q⟩ := h
  cases rx
  cases ry
  obtain ⟨oa, es, ep, la, hoa, xa, da, na⟩ := anyDct_raw I h1
  obtain ⟨ob, es', ep', lb, hob, xb, db, nb⟩ := anyDct_raw I h2
  refine eq_empty la lb hoa xa da hob xb db nb (by omega) ⟨.bl _, H, I, rfl, ?_⟩
  rw [na]; exact q
/-- x == {} -/
def lenDct (S : Sto) (x : Val) : Option Nat := match look1 S x with
  | .dct kvs => some kvs.length
  | .dck kvs => some kvs.length
  | .frz (.dct kvs) => some kvs.length
  | .frz (.dck kvs) => some kvs.length
  | _ => none
def kEqE (x y : Val) (S : Sto) : Out Val := match lenDct S x, lenDct S y with
  | some n, some 0 => .ok (.d (.bl (n == 0))) S
  | _, _ => .bad
theorem len_dct {Hk : Hp} {m : List Addr} {F H : Hp} {S : Sto} {v : V} {x : Val} {n : Nat} (R : RH B Hk m F S H) (r : RelX B m F v x) (e : lenDct S x = some n) : ∃ a, v = .ref a ∧ AnyDct B H a n := by
  have D1 : ∀ {d : D} {v : V}, Rel B F v d → (match d with
      | .dct kvs => some kvs.length
      | .dck kvs => some kvs.length
      | _ => none) = some n → ∃ a, v = .ref a ∧ AnyDct B H a n := fun {d v} r h => by
    cases r with
    | dct q r => cases h; exact ⟨_, rfl, .inl ⟨_, _, R.froz _ _ q, r.len⟩⟩
    | dck q r => cases h; exact ⟨_, rfl, .inr ⟨_, R.froz _ _ q, r.len⟩⟩
    | _ => cases h
  unfold lenDct at e
  rcases look1_rel R r with ⟨k, a, rfl, rfl, hn, c⟩ | ⟨d, rfl, r2⟩
  · generalize look1 S (.r k) = cell at e c
    cases cell with
    | dct kvs => obtain ⟨_, ob, es, h1, h2⟩ := c; cases e; exact ⟨a, rfl, .inl ⟨ob, es, h1, h2.len⟩⟩
    | dck kvs => obtain ⟨_, us, h1, h2⟩ := c; cases e; exact ⟨a, rfl, .inr ⟨us, h1, h2.len⟩⟩
    | frz d =>
      have c : Rel B F (.ref a) d := c
      refine D1 c ?_
      cases d <;> first | exact e | cases e
    | _ => cases e
  · refine D1 r2 ?_
    simp only [look1] at e
    cases d <;> first | exact e | cases e
theorem p_eqE : Prim2 B W (rEqE B) kEqE := by
  intro Hk σ m F S H v w x y Q R rx ry p
  unfold kEqE at p
  split at p
  · rename_i n e1 e2
    obtain ⟨a, rfl, h1⟩ := len_dct R rx e1
    obtain ⟨b, rfl, h2⟩ := len_dct R ry e2
    exact ⟨a, b, n, rfl, rfl, h1, h2, p _ H m F R (Grow.refl _ _ _) (.d (.bl _))⟩
  · exact False.elim p

/-! ### list(text) -/
def rListS : List V → Hp → VK → Prop := fun xs H Q => ∃ z : Str, xs = [.str z] ∧ z.cps.size ≤ sizeLine ∧ ∀ p, H p = none → Q (.ref p) (upd H p (.lst (z.cps.toList.map fun c => V.str ⟨#[c]⟩)))
theorem call_listS (hc : X.calm = true) : CallR X (.type "list") rListS := by
  intro pins s σ H xs us Q I r h
  obtain ⟨z, rfl, hz, q⟩ := h
  obtain ⟨u, rfl, ru⟩ := r.one
  obtain ⟨t, rfl⟩ := ru
  refine call_list_str (hn := hz) (I.ok.hd hc) z t fun h' tk acc c' hk hS hacc => ?_
  refine ⟨.ref s.heap.objs.size, upd H s.heap.objs.size (.lst (z.cps.toList.map fun c => V.str ⟨#[c]⟩)), I.laid hk (Nat.le_refl _) ⟨by rw [List.length_map, Array.length_toList]; exact hz, acc.toList, c', ?_, by rw [Array.toArray_toList]; exact hS⟩, rfl, q _ (I.hok.fresh (Nat.le_refl _))⟩
  refine vals_of_at (by rw [List.length_map, Array.length_toList, Array.length_toList, hacc.1]) fun j x w h1 h2 => ?_
  have := hacc.2 j w (by rw [← Array.getElem?_toList]; exact h2)
  rw [List.getElem?_map] at h1
  obtain ⟨c, hc, rfl⟩ := Option.map_eq_some_iff.mp h1
  obtain ⟨c2, u, e1, rfl⟩ := this
  rw [Array.getElem?_toList, e1] at hc
  cases hc
  exact ⟨u, rfl⟩
def kLstS (xs : List Val) (S : Sto) : Out Val := match xs with
  | [.d (.str s)] => if s.length ≤ 16777216 then .ok (.r S.length) (S ++ [Cell.lst (s.map fun c => .d (.str [c]))]) else .bad
  | _ => .bad
theorem p_lstS : PrimA B W rListS kLstS := by
  intro Hk σ m F S H vs xs Q R rs p
  unfold kLstS at p
  split at p
  · rename_i s
    by_cases hz : s.length ≤ 16777216
    · rw [if_pos hz] at p
      cases rs with
      | cons r1 rs =>
        cases rs
        cases r1 with
        | d r1 =>
          cases r1
          refine ⟨_, rfl, by rw [szl]; simpa using hz, fun l hl => ?_⟩
          have hr : ∀ t : List Nat, RelXs B m F (t.map fun c => V.str ⟨#[c]⟩) (t.map fun c => Val.d (.str [c])) := fun t => by
            induction t with
            | nil => exact .nil
            | cons c t ih => exact .cons (.d (.str [c])) ih
          obtain ⟨R', G⟩ := R.newC (o := .lst (s.map fun c => V.str ⟨#[c]⟩)) (c := .lst (s.map fun c => .d (.str [c]))) hl ⟨R.none hl, _, upd_same, (hr s).mono ⟨[l], rfl⟩ (fun _ _ h => h)⟩
          exact p _ _ _ F R' G (.r (app_last R.len))
    · rw [if_neg hz] at p; exact False.elim p
  · exact False.elim p
def mulI : D → D → Option D
  | .int i, .int j => mulD (.int i) (.int j)
  | _, _ => none
theorem p_mulI (K : PySem.W.Frag) : Prim2 B W (rMulAll K) (rd2 mulI) := prim2_rd fun F H v w a b z Q f l1 l2 e R => by
  cases l1 with
  | int i =>
    cases l2 with
    | int j =>
      simp only [mulI, mulD, Bool.or_eq_true, Bool.and_eq_true] at e
      split at e
      · rename_i hz
        cases e
        rcases hz with (hz | hz) | hz
        · exact .inl ⟨i, j, rfl, rfl, .inl (small_63 hz), R.old _ (.int _)⟩
        · exact .inl ⟨i, j, rfl, rfl, .inr (small_63 hz), R.old _ (.int _)⟩
        · exact .inr ⟨i, j, rfl, rfl, wide_mul (of_decide_eq_true hz.1) (of_decide_eq_true hz.2) (by decide) (by decide) (by decide), R.old _ (.int _)⟩
      · cases e
    | _ => cases e
  | _ => cases e
def revLD : D → Option D
  | .lst xs => some (.lst xs.reverse)
  | _ => none
end
end Dn

set_option Elab.async false
set_option linter.all false
set_option maxRecDepth 100000
set_option maxHeartbeats 2000000
/-! Dn: defs by the head's facts. -/
namespace Dn
open PySem L2 PyProof.Rows

/-- an own error class, by what the top made of it -/
structure ExcB (B : Bs) (x : Str) (c : Nat) : Prop where
  g : B.mg x = some (.ref (B.exA c))
  i : PySem.W.excIn B.K (B.exA c) [.type "ValueError", .type "Exception", .type "BaseException", .type "object"] "ValueError.__new__" = true
  k : PySem.W.keepIn B.K (.ref (B.exA c)) = true
  s : PySem.W.subIn B.K (.ref (B.exA c)) (.type "BaseException") = some true
  t : PySem.W.typeIn B.K (.ref (B.exA c)) = some (.type "type")
theorem ExcB.to {B : Bs} {X : Cx} {x : Str} {c : Nat} (h : ExcB B x c) (b : BX B X) : ExA B X x c := ⟨b.mg ▸ h.g, b.K ▸ h.i, b.K ▸ h.k, b.K ▸ h.s, b.K ▸ h.t⟩
section
variable {P : Program} {w : World} {K : PySem.W.Frag} {mg : Str → Option Value} {base : Heap} {B : Bs}
theorem pure_read (hJ : ∀ Hk m H, B.jp.J Hk m H) {N : List Str} {n : Nat} {g : DS} {vs : List V} {H : Hp} {Q : VK} {E : XK} (h : spP B n (pureOf N.length g) vs H Q E) : denS B (wE E) g { nx := fun _ H' => Q .non H', rt := Q } (L2.start N vs) H := by
  obtain ⟨Fz, ds, f1, nt, r, hl, h⟩ := h
  refine ⟨H, [], Fz, startD N.length ds, [], RH.zero f1 nt (hJ _ _ _), by rw [startD_eq]; exact start_rel r.xs, ?_⟩
  unfold pureOf at h
  cases e : g (startD N.length ds) [] with
  | nx sl S' =>
    rw [e] at h
    exact fun σ' H' m' F' R R2 G => h .non H' F' R.keep G.ff R.froz R.nt (fun b h1 h2 => G.fr b h1 h2 (by simp)) .non
  | ret x S' =>
    rw [e] at h
    intro v H' m' F' R G rx
    simp only [retOf] at h
    cases e2 : toD x S' with
    | ok d S2 =>
      rw [e2] at h
      obtain ⟨F2, R2, G2, r2⟩ := keepD R rx e2
      have G3 := G.trans G2
      exact h v H' F2 R.keep G3.ff R2.froz R2.nt (fun b h1 h2 => G3.fr b h1 h2 (by simp)) r2
    | exc c S2 => rw [e2] at h; exact False.elim h
    | bad => rw [e2] at h; exact False.elim h
  | bk sl S' => rw [e] at h; exact False.elim h
  | ct sl S' => rw [e] at h; exact False.elim h
  | exc c sl S' => rw [e] at h; exact fun σ' H' m' F' R R2 G => h H' R.keep
  | bad => rw [e] at h; exact False.elim h
theorem meth_read {N : List Str} {n : Nat} {g : DS} {vs : List V} {H : Hp} {Q : VK} {E : XK} (h : spM B n (methOf N.length g) vs H Q E) : denS B (wE E) g { nx := fun _ H' => Q .non H', rt := Q } (L2.start N vs) H := by
  obtain ⟨Hk, m, Fz, S0, xs, R0, r, hl, h⟩ := h
  refine ⟨Hk, m, Fz, startX N.length xs, S0, R0, start_rel r, ?_⟩
  unfold methOf at h
  cases e : g (startX N.length xs) S0 with
  | nx sl S' => rw [e] at h; exact fun σ' H' m' F' R R2 G => h .non H' m' F' R G (.d .non)
  | ret x S' => rw [e] at h; exact fun v H' m' F' R G rx => h v H' m' F' R G rx
  | bk sl S' => rw [e] at h; exact False.elim h
  | ct sl S' => rw [e] at h; exact False.elim h
  | exc c sl S' => rw [e] at h; exact fun σ' H' m' F' R R2 G => h H' m' F' R G
  | bad => rw [e] at h; exact False.elim h
theorem truncSp {n n2 : Nat} {g : DS} {vs : List V} {H : Hp} {Q : VK} {E : XK} (h : spM B n2 (methT n g) vs H Q E) : spM B n2 (methOf n g) vs H Q E := by
  obtain ⟨Hk, m, Fz, S0, xs, R0, r, hl, h⟩ := h
  exact ⟨Hk, m, Fz, S0, xs, R0, r, hl, post_trunc R0.len h⟩
section
variable {x qual : Str} {params : Arguments} {body : List Stmt} {scope : Scope} {f : Addr} {fd : FuncData} {N ps : List Str} {k : Nat} {g : DS}
abbrev Body (P : Program) (w : World) (K : PySem.W.Frag) (mg : Str → Option Value) (base : Heap) (B : Bs) (N : List Str) (qual : Str) (scope : Scope) (f : Addr) (body : List Stmt) (k : Nat) (g : DS) : Prop := ∀ (cdv : Value) (A : Around) (outer : List Env) (s : Shared) (H : Hp) (E : XK), Room k (A.deeper (envOfC qual scope s.heap.objs.size f cdv)) →
  PSs (cxOf (L2N.CX P w) P w K mg base N qual scope f cdv A outer s H E) body (denS B (wE E) g)
theorem fd_pure (hJ : ∀ Hk m H, B.jp.J Hk m H) (F : FunD K x qual params body scope [] [] f fd) (S : FnScope N ps scope) (hbody : Body P w K mg base B N qual scope f body k g) : FnOk P w K mg base (L2N.CX P w) (k + 1) f fd ps (spP B ps.length (pureOf N.length g)) :=
  F.ok S (fun vs H Q E ⟨_, _, _, _, _, h, _⟩ => h) fun cdv A outer s H vs Q E hr h => ⟨_, hbody cdv A outer s H E hr, pure_read hJ h⟩
theorem fd_meth (F : FunD K x qual params body scope [] [] f fd) (S : FnScope N ps scope) (hbody : Body P w K mg base B N qual scope f body k g) : FnOk P w K mg base (L2N.CX P w) (k + 1) f fd ps (spM B ps.length (methOf N.length g)) :=
  F.ok S (fun vs H Q E ⟨_, _, _, _, _, _, _, h, _⟩ => h) fun cdv A outer s H vs Q E hr h => ⟨_, hbody cdv A outer s H E hr, meth_read h⟩
theorem fd_methT (F : FunD K x qual params body scope [] [] f fd) (S : FnScope N ps scope) (hbody : Body P w K mg base B N qual scope f body k g) : FnOk P w K mg base (L2N.CX P w) (k + 1) f fd ps (spM B ps.length (methT N.length g)) :=
  (fd_meth F S hbody).imp fun _ _ _ _ h => truncSp h
theorem spP_bad {n : Nat} : ∀ vs H Q E, ¬ spP B n (fun _ => .bad) vs H Q E := fun vs H Q E ⟨_, _, _, _, _, _, h⟩ => h
theorem spM_bad {n : Nat} : ∀ vs H Q E, ¬ spM B n (fun _ _ => .bad) vs H Q E := fun vs H Q E ⟨_, _, _, _, _, _, _, _, h⟩ => h
/-- a def of which nothing is asked -/
theorem fn_bad {CX : CXT} {sp : Sp} (h : ∀ vs H Q E, ¬ sp vs H Q E) : FnOk P w K mg base CX k f fd ps sp := ⟨fun vs H Q E q => absurd q (h vs H Q E), by
  intros
  exact absurd (by assumption) (h _ _ _ _)⟩
end
end

theorem CtxOk.hu64 {B : Bs} {X : Cx} {W : WX} {k : Nat} (c : CtxOk B X W k) : X.A.units + 64 < cLine := by have := c.hu; omega
/-! ### cells forgotten -/
def gcSl (n : Nat) (sl : Sl) : Sl := sl.map fun o => match o with
  | some x => if valOk n x = true then some x else none
  | none => none
def gcFl (n : Nat) : Fl → Fl
  | .nx sl S => if (S.take n).all (cellOk n) = true then .nx (gcSl n sl) (S.take n) else .nx sl S
  | .ct sl S => if (S.take n).all (cellOk n) = true then .ct (gcSl n sl) (S.take n) else .ct sl S
  | .bk sl S => if (S.take n).all (cellOk n) = true then .bk (gcSl n sl) (S.take n) else .bk sl S
  | .ret x S => .ret x S
  | .exc c sl S => .exc c sl S
  | .bad => .bad
def sGc (g : DS) : DS := fun sl S => gcFl S.length (g sl S)
def sForget (is : List Nat) (g : DS) : DS := fun sl S => g (wipeD sl is) S
section
variable {X : Cx} {B : Bs} {W : WX}
theorem RSl.gc {m more : List Addr} {F : Hp} {sl : Sl} {σ : L2.St} (R : RSl B (m ++ more) F sl σ) : RSl B m F (gcSl m.length sl) σ := by
  refine ⟨by unfold gcSl; rw [List.length_map]; exact R.len, fun i x e => ?_⟩
  unfold gcSl at e
  rw [List.getElem?_map] at e
  obtain ⟨o, ho, e⟩ := Option.map_eq_some_iff.mp e
  cases o with
  | none => cases e
  | some y =>
    dsimp only at e
    split at e
    · rename_i hv
      cases e
      obtain ⟨v, h1, h2⟩ := R.at_ i _ ho
      exact ⟨v, h1, valOk_rel h2 hv⟩
    · cases e
theorem postS_gc {Hk : Hp} {m : List Addr} {F H : Hp} {S : Sto} {o : Fl} {D : Ends} (hl : m.length = S.length) (h : postS B W Hk m F H (gcFl S.length o) D) : postS B W Hk m F H o D := by
  cases o with
  | nx sl S' =>
    simp only [gcFl] at h
    split at h
    · rename_i hc
      intro σ' H' m' F' R R2 G
      obtain ⟨more, rfl⟩ := G.mm
      rw [← hl] at h hc
      exact h σ' H' m F' (R.cut hc) R2.gc (G.cut (more := more))
    · exact h
  | ct sl S' =>
    simp only [gcFl] at h
    split at h
    · rename_i hc
      intro σ' H' m' F' R R2 G
      obtain ⟨more, rfl⟩ := G.mm
      rw [← hl] at h hc
      exact h σ' H' m F' (R.cut hc) R2.gc (G.cut (more := more))
    · exact h
  | bk sl S' =>
    simp only [gcFl] at h
    split at h
    · rename_i hc
      intro σ' H' m' F' R R2 G
      obtain ⟨more, rfl⟩ := G.mm
      rw [← hl] at h hc
      exact h σ' H' m F' (R.cut hc) R2.gc (G.cut (more := more))
    · exact h
  | ret x S' => exact h
  | exc c sl S' => exact h
  | bad => exact h
theorem ds_gc {st : List Stmt} {g : DS} (h : PSs X st (denS B W g)) : PSs X st (denS B W (sGc g)) := PSs_weak h fun D σ H ⟨Hk, m, F, sl, S, R, R2, q⟩ => ⟨Hk, m, F, sl, S, R, R2, postS_gc R.len q⟩
theorem RSl.some_of {m : List Addr} {F : Hp} {sl sl' : Sl} {σ : L2.St} (R : RSl B m F sl σ) (hl : sl'.length = sl.length) (h : ∀ (i : Nat) (x : Val), sl'[i]? = some (some x) → sl[i]? = some (some x)) : RSl B m F sl' σ := ⟨R.len.trans hl.symm, fun i x e => R.at_ i x (h i x e)⟩
theorem wipeD_len (sl : Sl) : ∀ vs : List Nat, (wipeD sl vs).length = sl.length
  | [] => rfl
  | v :: vs => by rw [wipeD, List.length_set, wipeD_len sl vs]
theorem wipeD_some {sl : Sl} {i : Nat} {x : Val} : ∀ {vs : List Nat}, (wipeD sl vs)[i]? = some (some x) → sl[i]? = some (some x)
  | [], h => h
  | v :: vs, h => by
    rw [wipeD] at h
    by_cases hj : v = i
    · subst hj
      by_cases hl : v < (wipeD sl vs).length
      · rw [List.getElem?_set_self hl] at h; cases h
      · rw [List.getElem?_eq_none (by simpa using hl)] at h; cases h
    · rw [List.getElem?_set_ne hj] at h
      exact wipeD_some h
theorem ds_forget (is : List Nat) {st : List Stmt} {g : DS} (h : PSs X st (denS B W g)) : PSs X st (denS B W (sForget is g)) := PSs_weak h fun D σ H ⟨Hk, m, F, sl, S, R, R2, q⟩ => ⟨Hk, m, F, wipeD sl is, S, R, R2.some_of (wipeD_len sl is) fun _ _ e => wipeD_some e, q⟩
end
end Dn

set_option Elab.async false
set_option linter.all false
set_option maxRecDepth 100000
set_option maxHeartbeats 2000000
/-! Dn: a law's own invariant: tables of code objects; defs carried over. -/
namespace Dn
open PySem L2 PyProof.Rows

/-! ### the invariant -/
/-- the table at p: outside the cells; what it tells are code objects of the name q, outside the cells -/
def TabM (m : List Addr) (H : Hp) (p : Addr) (q : Str) : Prop := p ∉ m ∧ ∃ ps : Array Value, H p = some (.tbl ps) ∧ TriplesOk ps.toList ∧ ∀ (pos : Pos) (cv : Value), codeAmong pos ps.toList = some cv → ∃ c, cv = .ref c ∧ H c = some (LamX.CodeO c q) ∧ c ∉ m
def TabsM (T : List (Addr × Str)) (m : List Addr) (H : Hp) : Prop := ∀ p ∈ T, TabM m H p.1 p.2
theorem codeO_lst {c : Addr} {q : Str} {xs : List V} : LamX.CodeO c q ≠ .lst xs := fun z => by unfold LamX.CodeO at z; cases z
theorem TabM.to {m m' : List Addr} {H H' : Hp} {p : Addr} {q : Str} (h : TabM m H p q) (hm : ∀ b, H b ≠ none → b ∉ m → b ∉ m')
    (hh : ∀ b o, b ∉ m → H b = some o → (∀ xs, o ≠ .lst xs) → H' b = some o) : TabM m' H' p q := by
  obtain ⟨h0, ps, h1, h2, h3⟩ := h
  refine ⟨hm p (by rw [h1]; simp) h0, ps, hh p _ h0 h1 (fun xs z => by cases z), h2, fun pos cv e => ?_⟩
  obtain ⟨c, e1, e2, e3⟩ := h3 pos cv e
  exact ⟨c, e1, hh c _ e3 e2 (fun xs => codeO_lst), hm c (by rw [e2]; simp) e3⟩
def NoTbl (H : Hp) : Prop := ∀ a ps, H a ≠ some (.tbl ps)
def JP.tabs (T : List (Addr × Str)) : JP where
  J := fun Hk m H => NoTbl Hk ∧ TabsM T m H
  new := fun {Hk m H p o} h hp => ⟨h.1, fun q hq => (h.2 q hq).to (fun _ _ z => z) fun b u _ e _ => by rw [upd_ne (ne_of_none e hp)]; exact e⟩
  newC := fun {Hk m H p o} h hp => ⟨h.1, fun q hq => (h.2 q hq).to (fun b z hb y => by
    rcases List.mem_append.mp y with y | y
    · exact hb y
    · have e : b = p := by simpa using y
      exact z (by rw [e]; exact hp)) fun b u _ e _ => by rw [upd_ne (ne_of_none e hp)]; exact e⟩
  wr := fun {Hk m H a o} h ha => ⟨h.1, fun q hq => (h.2 q hq).to (fun _ _ z => z) fun b u hb e _ => by rw [upd_ne (fun z => hb (by rw [z]; exact ha))]; exact e⟩
  ext := fun {Hk m H H'} h e => ⟨h.1, fun q hq => (h.2 q hq).to (fun _ _ z => z) fun b u _ z _ => e b u z⟩
  cut := fun {Hk m more H} h => ⟨h.1, fun q hq => by
    obtain ⟨h0, ps, h1, h2, h3⟩ := h.2 q hq
    refine ⟨fun z => h0 (List.mem_append_left _ z), ps, h1, h2, fun pos cv e => ?_⟩
    obtain ⟨c, e1, e2, e3⟩ := h3 pos cv e
    exact ⟨c, e1, e2, fun z => e3 (List.mem_append_left _ z)⟩⟩
  bes := fun {Hk m H L ys} h hl => ⟨h.1, fun q hq => (h.2 q hq).to (fun _ _ z => z) fun b u _ e n => by
    rw [upd_ne (fun z => by
      rcases hl with hl | ⟨xs, hl⟩
      · rw [z, hl] at e; cases e
      · rw [z, hl] at e; exact n xs (Option.some.inj e).symm)]
    exact e⟩
  rem := fun {Hk m H L xs} h hl => ⟨h.1, fun q hq => (h.2 q hq).to (fun _ _ z => z) fun b u _ e n => by
    have nb : b ≠ L := fun z => by rw [z, hl] at e; exact n xs (Option.some.inj e).symm
    show (if b = L then none else H b) = some u
    rw [if_neg nb]; exact e⟩
  more := fun {Hk m H L xs} h => ⟨fun a ps z => by
    by_cases hb : a = L
    · rw [hb, upd_same] at z; cases z
    · rw [upd_ne hb] at z; exact h.1 a ps z, h.2⟩
  less := fun {Hk Hk' m H} h e => ⟨fun a ps z => h.1 a ps (e a _ z), h.2⟩
  meth := fun {Hk m m' H H'} h k hm => ⟨h.1, fun q hq => (h.2 q hq).to (fun b z hb y => (hm b y).elim hb z) fun b u hb e _ => k b u hb e⟩

/-! ### the same data, whatever is kept beside -/
abbrev setJ (B : Bs) (j : JP) : Bs := ⟨B.P, B.w, B.K, B.mg, B.clA, B.fN, B.exA, j, B.xv⟩
mutual
theorem Rel.cv {B : Bs} {F : Hp} (j : JP) : ∀ {v : V} {d : D}, Rel B F v d → Rel (setJ B j) F v d
  | _, _, .non => .non
  | _, _, .bl b => .bl b
  | _, _, .int i => .int i
  | _, _, .str s => .str s
  | _, _, .tup q r => .tup q (Rels.cv j r)
  | _, _, .lst q r => .lst q (Rels.cv j r)
  | _, _, .dct q r => .dct q (Ents.cv j r)
  | _, _, .dck q r => .dck q (Kvs.cv j r)
  | _, _, .opq h => .opq h
theorem Rels.cv {B : Bs} {F : Hp} (j : JP) : ∀ {v : List V} {d : List D}, Rels B F v d → Rels (setJ B j) F v d
  | _, _, .nil => .nil
  | _, _, .cons q r => .cons (Rel.cv j q) (Rels.cv j r)
theorem Ents.cv {B : Bs} {F : Hp} (j : JP) : ∀ {v : List Ent} {d : List (NestedKey × D)}, Ents B F v d → Ents (setJ B j) F v d
  | _, _, .nil => .nil
  | _, _, .cons q g r s t => .cons (Rel.cv j q) g r (Rel.cv j s) (Ents.cv j t)
theorem Kvs.cv {B : Bs} {F : Hp} (j : JP) : ∀ {v : List (Key × V)} {d : List (Key × D)}, Kvs B F v d → Kvs (setJ B j) F v d
  | _, _, .nil => .nil
  | _, _, .cons q r => .cons (Rel.cv j q) (Kvs.cv j r)
end
section
variable {B : Bs} {F H : Hp} {m : List Addr} (j : JP)
theorem RelX.cv {v : V} {x : Val} (h : RelX B m F v x) : RelX (setJ B j) m F v x := by
  cases h with
  | d h => exact .d (h.cv j)
  | r h => exact .r h
theorem RelXs.cv : ∀ {v : List V} {x : List Val}, RelXs B m F v x → RelXs (setJ B j) m F v x
  | _, _, .nil => .nil
  | _, _, .cons h r => .cons (h.cv j) (RelXs.cv r)
theorem EntXs.cv : ∀ {v : List Ent} {x : List (NestedKey × Val)}, EntXs B m F v x → EntXs (setJ B j) m F v x
  | _, _, .nil => .nil
  | _, _, .cons h g r s t => .cons (h.cv j) g r (s.cv j) (EntXs.cv t)
theorem KvXs.cv : ∀ {v : List (Key × V)} {x : List (Key × Val)}, KvXs B m F v x → KvXs (setJ B j) m F v x
  | _, _, .nil => .nil
  | _, _, .cons h r => .cons (h.cv j) (KvXs.cv r)
theorem RelOX.cv {v : Option V} {x : Option Val} (h : RelOX B m F v x) : RelOX (setJ B j) m F v x := by
  cases v with
  | none => cases x with
    | none => trivial
    | some _ => exact h.elim
  | some v => cases x with
    | none => exact h.elim
    | some x => exact RelX.cv j h
theorem CellR.cv {a : Addr} {c : Cell} (x : CellR B m F H a c) : CellR (setJ B j) m F H a c := by
  cases c with
  | lst xs => obtain ⟨e0, vs, e, r⟩ := x; exact ⟨e0, vs, e, r.cv j⟩
  | tup xs => obtain ⟨e0, vs, e, r⟩ := x; exact ⟨e0, vs, e, r.cv j⟩
  | dct kvs => obtain ⟨e0, o, es, e, r⟩ := x; exact ⟨e0, o, es, e, r.cv j⟩
  | dck kvs => obtain ⟨e0, vs, e, r⟩ := x; exact ⟨e0, vs, e, r.cv j⟩
  | obj C fs =>
    obtain ⟨e0, dx, vs, e, l, l2, n, r⟩ := x
    exact ⟨e0, dx, vs, e, l, l2, n, fun i nm y h1 h2 => (r i nm y h1 h2).cv j⟩
  | frz x => exact Rel.cv j (show Rel B F (.ref a) _ from by assumption)
  | lck kvs => obtain ⟨o, vs, e, r⟩ := x; exact ⟨o, vs, e, r.cv j⟩
end
/-- a def of data alone, for the law -/
theorem spP_cv {B : Bs} (j : JP) {n : Nat} {Fp : List D → Ret} {vs : List V} {H : Hp} {Q : VK} {E : XK} (h : spP (setJ B j) n Fp vs H Q E) : spP B n Fp vs H Q E := by
  obtain ⟨F, ds, f1, nt, r, hl, h⟩ := h
  refine ⟨F, ds, f1, nt, Rels.cv (B := setJ B j) B.jp r, hl, ?_⟩
  cases e : Fp ds with
  | ok d => rw [e] at h; exact fun v H' F' a b c d' e' r' => h v H' F' a b c d' e' (r'.cv j)
  | exc c => rw [e] at h; exact h
  | bad => rw [e] at h; exact h
theorem RH.cvM {B : Bs} (j : JP) {Hk Hk' : Hp} {m : List Addr} {F H : Hp} {S : Sto} (R : RH B Hk m F S H) (k : Same Hk' H) (fr : ∀ a ∈ m, Hk' a = Option.none) (hj : j.J Hk' m H) : RH (setJ B j) Hk' m F S H :=
  ⟨k, R.froz, R.len, R.nd, R.there, fr, R.nt, R.nc, hj, fun n a c h1 h2 => (R.cell n a c h1 h2).cv j⟩
/-- a method, for the law: all outside the cells stays -/
theorem spM_cv {B : Bs} (hB : ∀ Hk m H, B.jp.J Hk m H) (j : JP) {n : Nat} {Fm : List Val → Sto → Out Val} {vs : List V} {H : Hp} {Q : VK} {E : XK} (h : spM (setJ B j) n Fm vs H Q E) : spM B n Fm vs H Q E := by
  obtain ⟨Hk, m, F, S, xs, R, r, hl, h⟩ := h
  have k0 : Same (fun b => if b ∈ m then none else H b) H := fun b o e => by
    by_cases hb : b ∈ m
    · simp [hb] at e
    · simpa [hb] using e
  have R0 : RH B (fun b => if b ∈ m then none else H b) m F S H := RH.cvM (B := setJ B j) B.jp R k0 (fun a ha => by simp [ha]) (hB _ _ _)
  have back : ∀ {m' : List Addr} {F' H' : Hp} {S' : Sto}, RH B (fun b => if b ∈ m then none else H b) m' F' S' H' → Grow m F H m' F' H' → RH (setJ B j) Hk m' F' S' H' := fun {m' F' H' S'} R' G => by
    have out : ∀ b o, b ∉ m → H b = some o → H' b = some o := fun b o hb e => R'.keep b o (by simp [hb, e])
    refine RH.cvM j R' (fun b o e => out b o (fun z => ?_) (R.keep b o e)) (fun a ha => ?_) (j.meth R.j out G.mf)
    · rw [R.free b z] at e; cases e
    · rcases G.mf a ha with z | z
      · exact R.free a z
      · exact R.keep.free z
  refine ⟨_, m, F, S, xs, R0, RelXs.cv (B := setJ B j) B.jp r, hl, ?_⟩
  cases e : Fm xs S with
  | ok x S' => rw [e] at h; exact fun v H' m' F' R' G rx => h v H' m' F' (back R' G) G (RelX.cv j rx)
  | exc c S' => rw [e] at h; exact fun H' m' F' R' G => h H' m' F' (back R' G) G
  | bad => rw [e] at h; exact h
section
variable {P : Program} {w : World} {K : PySem.W.Frag} {mg : Str → Option Value} {base : Heap} {k n : Nat} {x : Str} {ps : List Str} {B : Bs}
theorem FnB.cv (j : JP) {Fp : List D → Ret} (h : FnB P w K mg base k x ps (spP B n Fp)) : FnB P w K mg base k x ps (spP (setJ B j) n Fp) :=
  let ⟨f, fd, h1, h2⟩ := h.ex
  ⟨f, fd, h1.imp fun _ _ _ _ q => spP_cv j q, h2⟩
theorem MtB.cv (hB : ∀ Hk m H, B.jp.J Hk m H) (j : JP) {C : Addr} {Fm : List Val → Sto → Out Val} (h : MtB P w K mg base k C x ps (spM B n Fm)) : MtB P w K mg base k C x ps (spM (setJ B j) n Fm) :=
  let ⟨f, fd, h1, h2⟩ := h.ex
  ⟨f, fd, h1.imp fun _ _ _ _ q => spM_cv hB j q, h2⟩
theorem MkB.cv (hB : ∀ Hk m H, B.jp.J Hk m H) (j : JP) {C : Addr} {Fm : List Val → Sto → Out Val} (h : MkB P w K mg base k C x ps (spM B n Fm)) : MkB P w K mg base k C x ps (spM (setJ B j) n Fm) :=
  let ⟨f, fd, h1, h2⟩ := h.ex
  ⟨f, fd, h1.imp fun _ _ _ _ q => spM_cv hB j q, h2⟩
end
end Dn

set_option Elab.async false
set_option linter.all false
set_option maxRecDepth 100000
set_option maxHeartbeats 2000000
/-! Dn: while an exception is handled: lists walked, comprehensions, sum, isinstance. -/
namespace Dn
open PySem PySem.Spec L2 PyProof.Rows

section
variable {prog : Program} {w : World} {A : Around} {E : Value → Shared → Prop} {s : Shared}
/-- a list's iterator at its end -/
theorem list_end_hot {it l x1 : Addr} {i : Nat} {items : Array Value} {Q : Option Value → Shared → Prop} (hot : HotX.HotAt A x1 s.heap) (hne : x1 ≠ it) (hit : s.heap.IsListIter it l i) (hl : s.heap.IsList l items) (hx : items[i]? = none)
    (hQ : ∀ h', Heap.ExtBut it s.heap h' → Q none { s with heap := h' }) : wpAny (model prog w) A (pyNext (.ref it)) Q E s := by
  obtain ⟨oi, gi, ci, di⟩ := id hit; obtain ⟨ol, gl, _, nl, dl⟩ := hl; obtain ⟨hh, o1, vs1, h1, d1, c1⟩ := hot
  unfold pyNext
  refine wpAny_bind (wpAny_attempt (wpAny_callSpecial?_slot (name := Str.ofString "__next__") hit.typeIs slot_listiter_next (wpAny_call_entry slot_listiter_next hit.typeIs entry_listiter_next ?_ (args_listiter_next _))))
  show wpAny _ _ (field (.ref it) 0 >>= _) _ _ s
  refine wpAny_bind (wpAny_field gi di (x := .ref l) rfl ?_); show wpAny _ _ (if (Value.ref l == Value.none) = true then _ else _) _ _ s
  rw [if_neg (show ¬ ((Value.ref l == Value.none) = true) from Bool.false_ne_true)]; show wpAny _ _ (field (.ref it) 1 >>= _) _ _ s
  refine wpAny_bind (wpAny_field gi di (x := .int i 0) rfl ?_); show wpAny _ _ (seqItems? (.ref l) >>= _) _ _ s
  refine wpAny_bind (wpAny_seqItems gl dl ?_); simp only [Int.toNat_natCast, hx]
  refine wpAny_bind (wpAny_rule (wpAny_bind (wpAny_setField gi di (by simp) ?_))); show wpAny _ _ (newExc (.type "StopIteration") [] >>= _) _ _ _
  refine wpAny_bind ?_; simp only [newExc, newTuple]
  refine wpAny_bind (wpAny_newObj_type ?_ (by size_fits)); refine wpAny_bind (m := firstArgMember _ _) (wpAny_of_eq (a := Value.none) (by first | rfl | (simp only [firstArgMember]; rfl)) ?_)
  refine wpAny_newObj_type ?_ (by size_fits)
  have g1 : ∀ f : Obj → Obj, (s.heap.update it f).get? x1 = some o1 := fun f => by rw [Heap.get?_update_other _ _ (Ne.symm hne)]; exact h1
  refine HotX.raiseNew_hot ⟨hh, o1, vs1, Heap.get?_push_of_some _ (Heap.get?_push_of_some _ (g1 _)), d1, c1⟩ (Nat.ne_of_lt (Heap.lt_size (Heap.get?_push_of_some _ (g1 _)))) (Heap.get?_push_size _ rfl) rfl (by first | (simp; done) | (simp; omega) | (simp only [Array.size_append]; simp; omega)) ?_
  refine wpAny_bind (wpAny_isInstance (T := "StopIteration") (b := true) ⟨_, Heap.get?_update_self _ (Heap.get?_push_size _ rfl) rfl, rfl⟩ isSubtype_stop ?_)
  refine wpAny_pure (hQ _ fun b o nb e => ?_)
  have st1 : ∀ f : Obj → Obj, (s.heap.update it f).get? b = some o := fun f => by rw [Heap.get?_update_other _ _ (Ne.symm nb)]; exact e
  rw [Heap.get?_update_other _ _ (Nat.ne_of_gt (Heap.lt_size (Heap.get?_push_of_some _ (st1 _))))]; exact Heap.get?_push_of_some _ (Heap.get?_push_of_some _ (st1 _))
/-- a list's walk -/
theorem walks_hot {I ax x1 : Addr} {o1 : Obj} {vs1 : Array Value} (hh : A.handled = some (.ref x1)) (d1 : o1.data = .fields vs1) (c1 : vs1[2]? = some .none) (hne : ax ≠ I) (hne1 : x1 ≠ I) (items : Array Value) :
    Walks prog w A I [I, ax, x1] [I] items.size (fun i v => items[i]? = some v) (fun i h => h.IsListIter I ax i ∧ h.IsList ax items ∧ h.get? x1 = some o1) where
  sub := fun b hb => by simp at hb; simp [hb]
  frame := fun _ _ _ st hk => ⟨st.1.at fun o e => hk I (by simp) o e, st.2.1.at fun o e => hk ax (by simp) o e, hk x1 (by simp) _ st.2.2⟩
  item := fun i s Q E hi st hQ => by
    refine wpAny_pyNext_list_item st.1 st.2.1 (x := items[i]) (by simp [hi]) fun h' hit' hs' => hQ _ h' s.toks (by simp [hi]) ⟨hit', st.2.1.extBut hs'.extBut hne, hs'.extBut x1 _ hne1 st.2.2⟩ fun b o hb e => hs'.extBut b o (fun h => hb (by simp [h])) e
  done := fun s Q E st hQ => list_end_hot ⟨hh, o1, vs1, st.2.2, d1, c1⟩ hne1 st.1 st.2.1 (by simp) fun h' he' => hQ h' s.toks fun b o hb e => he' b o (fun h => hb (by simp [h])) e
  self := fun _ _ _ _ st hQ => wpAny_pyIter_listiter st.1 hQ
theorem sum_hot {l x1 : Addr} {xs : Array (Int × Tok)} {Q : Value → Shared → Prop} (hot : HotX.HotAt A x1 s.heap) (hl : s.heap.IsList l (intItems xs))
    (h : ∀ h' tk t', (∀ b o, s.heap.get? b = some o → h'.get? b = some o) → Q (.int (preSum (numAt xs) xs.size) t') { s with heap := h', toks := tk }) : wpAny (model prog w) A (call (.builtin "sum") [.ref l]) Q E s := by
  obtain ⟨hh, o1, vs1, h1, d1, c1⟩ := hot
  refine call_sum_walkG (wpAny_pyIter_list hl ?_)
  have lt1 := Heap.lt_size h1
  have ltl : l < s.heap.objs.size := let ⟨_, z, _⟩ := hl; Heap.lt_size z
  refine ⟨_, _, _, _, _, _, numAt xs, rfl, walks_hot (A := A.in1) hh d1 c1 (ax := l) (I := s.heap.objs.size) (Nat.ne_of_lt ltl) (Nat.ne_of_lt lt1) (intItems xs), ⟨⟨_, Heap.get?_push_size _ rfl, rfl, rfl⟩, hl.at fun o e => Heap.get?_push_of_some _ e, Heap.get?_push_of_some _ h1⟩, fun b hb => ?_, (fun _ _ => intItems_at), fun h' tk t' hk => ?_⟩
  · rw [Heap.size_push]
    simp only [List.mem_cons, List.not_mem_nil, or_false] at hb
    rcases hb with e | e | e
    · rw [e]; exact Nat.lt_succ_self _
    · rw [e]; exact Nat.lt_succ_of_lt ltl
    · rw [e]; exact Nat.lt_succ_of_lt lt1
  · have := h h' tk t' fun b o e => hk b o (by simp; exact Nat.ne_of_lt (Heap.lt_size e)) (Heap.get?_push_of_some _ e)
    simpa [intItems] using this
end
section
variable {X : Cx}
theorem cr_sumH (hc : L2H.HotC X) : CallR X (.builtin "sum") (rSum X.K) := by
  intro pins s σ H vs us Q I r h
  obtain ⟨a, ns, rfl, hs, q⟩ := h
  obtain ⟨its, rv, hl, _⟩ := I.list hs
  obtain ⟨x1, hot⟩ := hc.at I
  rw [Vals.ref1 r]
  have hl := hl.isList
  obtain ⟨xs, e⟩ := rv.ints.allInts.items
  have hn : numsOf (intItems xs).toList = ns := by rw [← e]; exact rv.ints.numsOf
  rw [nums_intItems] at hn; rw [e] at hl
  refine sum_hot hot hl fun h' tk t' hk => ⟨.int _, H, I.kept hk, ⟨t', ?_⟩, q⟩
  rw [preSum_eq, List.take_of_length_le (by simp), hn]
end
end Dn

set_option Elab.async false
set_option linter.all false
set_option maxRecDepth 100000
set_option maxHeartbeats 2000000
/-! Dn: while an exception is handled: list comprehensions over a list. -/
namespace Dn
open PySem PySem.Spec L2 PyProof.Rows

def iLstT (K : PySem.W.Frag) (te : TE) : TI := fun σ H R => te σ H fun x H1 => ∃ a, x = .ref a ∧ (∃ xs, SqL K H1 a xs) ∧ R (Itl K a) H1
section
variable {X : Cx} {elt tg iter : Expr} {ifs : List Expr} {scope : Scope} {own : List (Str × Nat)} {pos : Pos} {g : TG} {tt : TT} {te te0 : TE}
theorem pe_lcH (hc : L2H.HotC X) (hN : X.N.Nodup) (hi : PE X iter te0) (ok : BlkOk X.N X.env.scope scope own)
    (hg : ∀ (s : Shared) (H : Hp) (C : Addr) (cl : List (Str × Addr)) (fp : List Addr), PG (X.blk s H scope (compEnvC scope cl C X.env) fp) tg g) (ht : ∀ (s : Shared) (H : Hp) (C : Addr) (cl : List (Str × Addr)) (fp : List Addr), PTs (X.blk s H scope (compEnvC scope cl C X.env) fp) ifs tt)
    (he : ∀ (s : Shared) (H : Hp) (C : Addr) (cl : List (Str × Addr)) (fp : List Addr), PE (X.blk s H scope (compEnvC scope cl C X.env) fp) elt te) (hs : ∀ x, foldedSetIterable iter X.env x = pure x := by intro _; rfl) :
    PE X (.ListComp elt [⟨tg, iter, ifs, 0⟩] scope pos) (tLc (iLstT X.K te0) g tt te (own.map (·.2))) := by
  refine ⟨fun pins s0 σ H Q I0 h => ?_⟩
  obtain ⟨px, ⟨hh, v1, dx, cx⟩, hpx⟩ := hc
  rw [eval_ListComp]
  have hf : ∀ y ∈ scope.names, y.2 = .free → ∃ c, X.env.cells.lookup y.1 = some c := fun y hy e => (ok.free y hy e).elim (fun k => I0.ok.has _ (.inl k)) fun k => I0.ok.has _ (.inr k)
  refine wpAny_comprehension_free (use := none) rfl hs (closure_ok hf) ok.kind (fun y hy e => by rw [ok.uniq y hy, e]) (thn (hi.run pins s0 σ H _ I0 h) fun xv s1 ⟨x, H2, J1, r1, a, ex, ⟨xs0, hq⟩, q⟩ => ?_)
  subst ex
  obtain rfl : xv = Value.ref a := r1
  obtain ⟨its0, rv0, p0, hz0⟩ := J1.list hq
  have hx : wpAny (model X.prog X.w) X.A (pyIter (.ref a)) (fun itv s2 => ∃ it, itv = .ref it ∧ Inv X pins σ H2 s2 ∧ s2.heap.IsListIter it a 0 ∧ FpOk X pins H2 it ∧ px.1 ≠ it ∧ it < s2.heap.objs.size) X.xe s1 :=
    wpAny_pyIter_list p0.isList ⟨s1.heap.objs.size, rfl, J1.kept (t' := s1.toks) fun b o e => Heap.get?_push_of_some _ e, ⟨_, Heap.get?_push_size _ rfl, rfl, rfl⟩, J1.fpOk (Nat.le_refl _) (J1.hok.fresh (Nat.le_refl _)), Nat.ne_of_lt (Heap.lt_size (J1.pin px (List.mem_append_left _ hpx)).1), by rw [Heap.size_push]; exact Nat.lt_succ_self _⟩
  refine thn hx fun itv s2 ⟨it, ei, I2, st2, fit, pne, itlt⟩ => ?_
  subst ei
  refine wpAny_newObj_type (newEnv_comp ?_) (by show 0 ≤ sizeLine; decide)
  generalize hD : s2.heap.objs.size = L
  have nL : H2 L = none := I2.hok.fresh (Nat.le_of_eq hD)
  obtain ⟨Wv, ⟨k0, w0⟩, turn⟩ := q L nL
  generalize hs3 : ({ s2 with heap := s2.heap.push { cls := .type "list", data := .seq ([] : List Value).toArray } } : Shared) = s3
  have e3 : s3.heap = s2.heap.push { cls := .type "list", data := .seq ([] : List Value).toArray } := by rw [← hs3]
  have I3 : Inv X pins σ (upd H2 L (.lst [])) s3 := by
    rw [← hs3]
    exact I2.laid (t' := s2.toks) (fun b o e => Heap.get?_push_of_some _ e) (Nat.le_of_eq hD) ⟨Nat.zero_le _, [], 0, .nil, by rw [← hD]; exact Heap.get?_push_size _ rfl⟩
  have fit3 : ∀ b ∈ [it], FpOk X pins (upd H2 L (.lst [])) b ∧ b < s3.heap.objs.size := fun b hb => by
    have eb : b = it := by simpa using hb
    subst eb
    refine ⟨⟨?_, fit.2⟩, by rw [e3, Heap.size_push]; exact Nat.lt_succ_of_lt itlt⟩
    rw [upd_ne (by rw [← hD]; exact Nat.ne_of_lt itlt)]; exact fit.1
  have st3 : s3.heap.IsListIter it a 0 := st2.at fun o e => by rw [e3]; exact Heap.get?_push_of_some _ e
  have I4 := block_start I3 ok hN fit3
  have PX := I3.pin px (List.mem_append_left _ hpx)
  have pfr : px.1 ∉ frs X.stack := fun z => (List.mem_cons.mp (I3.stkSub px.1 z)).elim PX.2.2.1 PX.2.2.2.1
  generalize hcl : cellsFrom (s3.heap.objs.size + 1) scope.names (cloFrom X.env.cells scope.names []) = cl at I4
  have pg := hg s3 (upd H2 L (.lst [])) s3.heap.objs.size cl [it]; have pt := ht s3 (upd H2 L (.lst [])) s3.heap.objs.size cl [it]; have pe := he s3 (upd H2 L (.lst [])) s3.heap.objs.size cl [it]
  show codeAny _ _ (.compStart (.ListComp elt [⟨tg, iter, ifs, 0⟩] scope pos) 0 (.ref it) (.ref L) (compEnvC scope cl s3.heap.objs.size X.env)) (compPost (model X.prog X.w) X.A X.xe none (EP X pins σ Q) (.ref L) s3.heap.objs.size) { s3 with heap := pushCells (s3.heap.push { cls := .type "dict", data := .dict #[] }) scope.names }
  generalize hce : compEnvC scope cl s3.heap.objs.size X.env = ce at I4 pg pt pe ⊢
  have cL : ce.locals = s3.heap.objs.size := by subst hce; rfl
  have n3 : (upd H2 L (.lst [])) it = none := (fit3 it (by simp)).1.1
  generalize hH3 : upd H2 L (.lst []) = H3 at I3 I4 pg pt pe w0 n3 fit3 PX
  generalize hs4 : ({ s3 with heap := pushCells (s3.heap.push { cls := .type "dict", data := .dict #[] }) scope.names } : Shared) = s4 at I4 ⊢
  have st4 : s4.heap.IsListIter it a 0 := st3.at fun o e => by rw [← hs4]; exact pushCells_keeps _ _ _ _ (Heap.get?_push_of_some _ e)
  have hot : ∀ {σ' : L2.St} {H' : Hp} {s' : Shared}, Inv (X.blk s3 H3 scope ce [it]) [] σ' H' s' → HotX.HotAt X.A px.1 s'.heap := fun {σ' H' s'} I' => ⟨hh, px.2, v1, I'.base.keep px.1 px.2 PX.1 PX.2.1 pfr (by simpa using pne), dx, cx⟩
  have stat : ∀ {σ' : L2.St} {H' : Hp} {s' : Shared}, Inv (X.blk s3 H3 scope ce [it]) [] σ' H' s' → H' it = none → FpOk (X.blk s3 H3 scope ce [it]) [] H' it := fun {σ' H' s'} I' hn =>
    have hm : it ∈ [it] := by simp
    ⟨hn, (I'.ok.exf it hm).1, I'.ok.exfs it hm, .inl hm, fun x c e => (I'.ok.exf it hm).2 x c e, fun p hp => absurd (show p ∈ ([] : List (Addr × Obj)) ++ [] from hp) (by simp)⟩
  have loop : codeAny (model X.prog X.w) X.A (.compLoop (.ListComp elt [⟨tg, iter, ifs, 0⟩] scope pos) 0 (.ref it) (.ref L) ce) (compPost (model X.prog X.w) X.A X.xe none (EP X pins σ Q) (.ref L) s3.heap.objs.size) s4 := by
    refine compLoop_any (fun n s' => ∃ i H', Inv (X.blk s3 H3 scope ce [it]) [] (wipe σ (own.map (·.2))) H' s' ∧ s'.heap.IsListIter it a i ∧ H' it = none ∧ Wv i n H') ?_ k0 ⟨0, H3, I4, st4, n3, w0⟩
    rintro n s5 ⟨i, H5, I5, st5, n5, w5⟩
    obtain ⟨f0, f1, f2, f3, f4, f5⟩ := stat I5 n5
    rcases turn i n H5 w5 with ⟨⟨ys, hy, hle⟩, qq⟩ | ⟨⟨ys, y, hy, hyi⟩, Nx, hNx, step⟩
    · obtain ⟨its5, rv5, p5, hz5⟩ := I5.list hy
      have ln5 := rv5.length
      refine list_end_hot (hot I5) pne st5 p5.isList (by simp; omega) fun h' eb => ?_
      have I6 := I5.turned (t' := s5.toks) (fun b o hb e => eb b o hb e) f0 f1 f3 f4 f5
      have I7 := I3.call' (ch := [it]) I6.os I6.base I6.hok I6.bare fun b hb => ⟨(fit3 b hb).1.2.2.2.1, (fit3 b hb).1.2.1, (fit3 b hb).1.2.2.2.2.1, (fit3 b hb).1.2.2.2.2.2⟩
      have nC : H5 s3.heap.objs.size = none := by rw [← cL]; exact I6.free
      obtain ⟨mm, hns, _⟩ := I6.loc
      have hns : Heap.Ns h' ce.locals mm := hns
      rw [cL] at hns
      obtain ⟨c0, c1, c2, c3, c4, c5⟩ := I3.fpOk (Nat.le_refl _) nC
      exact ⟨mm, hns, fun h'' sb => ⟨.ref L, H5, I7.turned (t' := s5.toks) (fun b o hb e => (sb.2 b hb).trans e) c0 c1 c3 c4 c5, rfl, qq⟩⟩
    · obtain ⟨its5, rv5, p5, hz5⟩ := I5.list hy
      obtain ⟨u, hu, ru⟩ := rv5.get hyi
      refine wpAny_pyNext_list_item st5 p5.isList (x := u) (by simpa using hu) fun h' st6 sb => ?_
      have I6 : Inv (X.blk s3 H3 scope ce [it]) [] (wipe σ (own.map (·.2))) H5 { s5 with heap := h' } := I5.turned (t' := s5.toks) (fun b o hb e => (sb.2 b hb).trans e) f0 f1 f3 f4 f5
      obtain ⟨oi, gi, ci, di⟩ := id st6
      refine go_of (s := { s5 with heap := h' }) gi ci di (by decide) ?_
      have I6' := I6.pinned (fp := [it]) (fun b hb => by
        have eb : b = it := by simpa using hb
        rw [eb]; exact stat I6 n5) (fun b hb => by
        have eb : b = it := by simpa using hb
        rw [eb]; exact ⟨oi, gi, fun v z => by rw [di] at z; cases z⟩)
      refine thnF (pg.run _ { s5 with heap := h' } _ H5 y u _ I6' ru (step y H5 ⟨rfl, fun zs hzs => by rw [I5.list_inj hzs hy]; exact hyi⟩)) fun _ s8 ⟨σ8, H8, I8, hw8, q8⟩ => ?_
      refine thnF (pt.run _ s8 σ8 H8 _ I8 q8) fun b s9 ⟨H9, I9, q9⟩ => ?_
      have fin : ∀ {s' : Shared} {H' : Hp}, Inv (X.blk s3 H3 scope ce [it]) ([] ++ pinsAt [it] h') σ8 H' s' → Nx H' → ∃ m, m < n ∧ ∃ i H', Inv (X.blk s3 H3 scope ce [it]) [] (wipe σ (own.map (·.2))) H' s' ∧ s'.heap.IsListIter it a i ∧ H' it = none ∧ Wv i m H' := fun {s' H'} I' nx => by
        obtain ⟨m', hm, w'⟩ := hNx H' nx
        have z := I'.pin (it, oi) (List.mem_append_right _ (List.mem_append_right _ (mem_pinsAt (by simp) gi)))
        refine ⟨m', hm, i + 1, H', (I'.unpinned (pins := [])).weak (by rw [← hw8, wipe_length]) (fun j v e => by rw [← hw8] at e; exact (wipe_some e).1), ⟨oi, z.1, ci, di⟩, z.2.1, w'⟩
      cases b with
      | false => simp only [Bool.false_eq_true, if_false] at q9 ⊢; exact fin I9 q9
      | true =>
        simp only [if_true] at q9 ⊢
        refine thnF (pe.run _ s9 σ8 H9 _ I9 q9) fun z s10 ⟨yv, H10, I10, r10, acc, hD10, hz10, nx⟩ => app_ok (X := X.blk s3 H3 scope ce [it]) I10 hD10 hz10 r10 fun s11 I11 => fin I11 nx
  exact codeAny_compStart_list loop (wpAny_pyIter_listiter st4 loop)
end
end Dn

set_option Elab.async false
set_option linter.all false
set_option maxRecDepth 100000
set_option maxHeartbeats 2000000
/-! Dn: the def that judges a caught exception, and its call. -/
namespace Dn
open PySem PySem.Spec L2 PyProof.Rows

section
variable {X : Cx} {B : Bs} {W : WX}
/-! ### lists walked -/
def iLstD (f : DE) : DI := fun sl S => (f sl S).bind fun x S1 => match lstItems S1 x with
  | some _ => .ok (fun S' => lstItems S' x) S1
  | none => .bad
theorem w_lst {f : DE} (hB : BX B X) {σ : L2.St} {H : Hp} {R : It → Hp → Prop} (h : denI B W (iLstD f) σ H R) : iLstT X.K (denE B W f) σ H R := by
  obtain ⟨Hk, m, F, sl, S, R1, R2, q⟩ := h
  refine ⟨Hk, m, F, sl, S, R1, R2, ?_⟩
  unfold iLstD at q
  cases e0 : f sl S with
  | exc c S' => rw [e0] at q; exact q
  | bad => rw [e0] at q; exact q
  | ok x S1 =>
    rw [e0, Out.bind_ok] at q
    intro v H' m' F' R3 G r
    cases e1 : lstItems S1 x with
    | none => rw [e1] at q; exact False.elim q
    | some xs =>
      rw [e1] at q
      obtain ⟨a, vs, rfl, h1, h2⟩ := lst_items R3 r e1
      exact ⟨a, rfl, ⟨vs, .inl h1⟩, q _ m' F' H' R3 G (ok_lst hB r)⟩
theorem tLc_iter {wi wi' : TI} {g : TG} {tt : TT} {te : TE} {vs : List Nat} (w : ∀ {σ : L2.St} {H : Hp} {R : It → Hp → Prop}, wi' σ H R → wi σ H R) {σ : L2.St} {H : Hp} {Q : VK} (h : tLc wi' g tt te vs σ H Q) : tLc wi g tt te vs σ H Q := w h
theorem de_lcH {elt tg iter : Expr} {ifs : List Expr} {scope : Scope} {pos : Pos} {f : DE} {g : DF} {t : DT} {e : DE} {is : List Nat} {fin : List Val → Sto → Out Val} (fo : FinOk B W fin) (own : List (Str × Nat)) (hB : BX B X) (hc : L2H.HotC X) (hN : X.N.Nodup) (hi : PE X iter (denE B W f)) (ok : BlkOk X.N X.env.scope scope own)
    (hg : ∀ (s : Shared) (H : Hp) (C : Addr) (cl : List (Str × Addr)) (fp : List Addr), PG (X.blk s H scope (compEnvC scope cl C X.env) fp) tg (denF B is g)) (ht : ∀ (s : Shared) (H : Hp) (C : Addr) (cl : List (Str × Addr)) (fp : List Addr), PTs (X.blk s H scope (compEnvC scope cl C X.env) fp) ifs (denT B WF t))
    (he : ∀ (s : Shared) (H : Hp) (C : Addr) (cl : List (Str × Addr)) (fp : List Addr), PE (X.blk s H scope (compEnvC scope cl C X.env) fp) elt (denE B WF e)) (his : ∀ j ∈ is, j ∈ own.map (·.2) := by decide) (hs : ∀ x, foldedSetIterable iter X.env x = pure x := by intro _; rfl) :
    PE X (.ListComp elt [⟨tg, iter, ifs, 0⟩] scope pos) (denE B W (gLc fin (iLstD f) g t e (own.map (·.2)))) :=
  PE_weak (pe_lcH hc hN hi ok hg ht he hs) fun _ _ _ q => tLc_iter (w_lst hB) (w_lc fo his q)

/-! ### isinstance of the exception -/
theorem call_isP {a D : Addr} {oe : Obj} (hp : (a, oe) ∈ X.pn) (C : ExcC X.K D) (hz : Zc (.ref D) none oe) (hf : ∃ vs, oe.data = .fields vs) : CallR X (.builtin "isinstance") (rIsE X.K D a) := by
  intro pins s σ H xs us Q I r ⟨c, cv, b, exs, hcv, e, q⟩
  subst exs
  cases r with
  | cons rx rr => cases rr with
    | cons rt rr =>
      cases rr
      obtain rfl := rx
      obtain rfl := hcv _ rt
      obtain ⟨vs, hv⟩ := hf
      have J : PySem.W.InstAt s.heap a oe D none := by
        have hget := (I.pin (a, oe) (List.mem_append_left _ hp)).1
        obtain ⟨oc, od, oda, osl⟩ := oe
        obtain ⟨h1, h2⟩ := hz
        dsimp only at h1 h2 hv
        subst h1 h2 hv; exact ⟨hget, rfl, rfl, trivial⟩
      exact PySem.W.kia_one (PySem.W.handS_kitx_exc C.hg C.hk C.hs C.hd C.ha C.hn C.ht C.hm) I.kIn J e (fun z => nomatch z) fun tk => ⟨.bl b, H, I.kept (t' := tk) fun _ _ z => z, rfl, q⟩
def kIsX (b : Bool) (x : Val) (S : Sto) : Out Val := match x with
  | .d .opq => .ok (.d (.bl b)) S
  | _ => .bad
theorem de_isX {a D : Addr} {oe : Obj} {f : DE} {e c : Expr} {v : V} {cv : Value} {b : Bool} {x : Str} {p pos : Pos} (hp : (a, oe) ∈ X.pn) (C : ExcC X.K D) (hz : Zc (.ref D) none oe) (hf : ∃ vs, oe.data = .fields vs) (hxv : B.xv = some a) (hm : X.mg x = none) (hv : bootBuiltins x = some (.builtin "isinstance"))
    (he : PE X e (denE B W f)) (hy : PE X c (tC v)) (hcv : ∀ u, RelV v u → u = cv) (hk : PySem.W.kitOne X.K (.ref D) cv = some b) (hg : Gl X x := by rfl)
    (hn : x ≠ "__name__" := by decide) (hdb : (x == ("__debug__" : Str)) = false := by decide) (hs : starEach [e, c] X.env = (false, eval e X.env) :: starEach [c] X.env := by rfl) (hs2 : starEach [c] X.env = (false, eval c X.env) :: starEach [] X.env := by rfl) (hpl : (backTo pos (starEach [c] X.env)).any (·.1) = false := by rfl) :
    PE X (.Call (.Name x p) [e, c] [] pos) (denE B W (d1 f (kIsX b))) :=
  de1 (PE_weak (pe_callB (call_isP hp C hz hf) hg hm hv (pa_cons he (pa_cons hy pa_nil hs2) hs) hn hdb hs hpl) fun σ H Q q => q) (r := fun x H Q => rIsE X.K D a [x, v] H Q) fun Hk σ m F S H w x Q R rx p => by
    unfold kIsX at p
    cases x with
    | r n => exact False.elim p
    | d d =>
      cases d with
      | opq =>
        cases rx with
        | d rx =>
          cases rx with
          | opq h =>
            rw [hxv] at h
            cases h
            exact ⟨v, cv, b, rfl, hcv, hk, p _ H m F R (Grow.refl _ _ _) (.d (.bl b))⟩
      | _ => exact False.elim p
end

/-! ### the def that judges -/
abbrev setX (B : Bs) (a : Addr) : Bs := ⟨B.P, B.w, B.K, B.mg, B.clA, B.fN, B.exA, JP.triv, some a⟩
section
variable {P : Program} {w : World} {K : PySem.W.Frag} {mg : Str → Option Value} {base : Heap} {B : Bs}
/-- called with the handled exception, of the class C -/
structure FnX (P : Program) (w : World) (K : PySem.W.Frag) (mg : Str → Option Value) (base : Heap) (B : Bs) (k : Nat) (f : Addr) (fd : FuncData) (x : Str) (C : Addr) (Fw : List D → Ret) : Prop where
  run : ∀ (A : Around) (outer : List Env) (s : Shared) (H : Hp) (args : Args) (Q : VK) (p : Addr × Obj), L2H.RoomH k A → L2H.Hot1 A p → L2H.PinOk outer H s p → Zc (.ref C) none p.2 → Env0 P w K mg base A outer s H → BindsTo s fd args [(x, .ref p.1)] → spP (setX B p.1) 1 Fw [.ref p.1] H Q C8.E0 →
    codeAny (model P w) A (.call (.ref f) args) (CR C8.CX0 outer P w H s Q C8.E0) s
theorem fn_ofX {qual x y : Str} {params : Arguments} {body : List Stmt} {scope : Scope} {f C : Addr} {fd : FuncData} {N : List Str} {k : Nat} {g : DS} (Fd : FunD K y qual params body scope [] [] f fd) (S : FnScope N [x] scope)
    (hbody : ∀ (cdv : Value) (A : Around) (outer : List Env) (s : Shared) (H : Hp) (p : Addr × Obj), L2H.Hot1 A p → Zc (.ref C) none p.2 → L2H.RoomH k (A.deeper (envOfC qual scope s.heap.objs.size f cdv)) → PSs (L2H.cxH C8.CX0 P w K mg base N qual scope f cdv A outer s H C8.E0 p) body (denS (setX B p.1) WF g)) :
    FnX P w K mg base B (k + 1) f fd x C (pureOf N.length g) := by
  obtain ⟨oc, od, dV, kV, doc, pm, an, cdv, ct, osl, rfl, lk, hcd, _, _⟩ := Fd.ex
  refine ⟨fun A outer s H args Q p hr hot hpin hz e0 hb hsp => ?_⟩
  have hkind : ∀ y ∈ [(x, Value.ref p.1)], scope.names.lookup y.1 = some .local ∨ (scope.names.lookup y.1 = some .cell ∧ ((cellsFrom (s.heap.objs.size + 1) scope.names []).lookup y.1).isSome = true) := fun y hy => by
    have ey : y = (x, Value.ref p.1) := by simpa using hy
    subst ey
    exact (S.par x (by simp)).elim .inl fun q => .inr ⟨q, PySem.W.cellsFrom_some _ _ _ (.inl q)⟩
  have KX : K.In s.heap := e0.mod.kin.keeps fun b o e => (e0.bs b o e).1
  refine codeAny_call_function hr.depth (KX _ _ lk) rfl S.co S.gen rfl (PySem.W.codeRec_of KX hcd) (hb _ _ _ _ (wpAny_newFunctionEnv_cells S.kind hkind fun env he s1 x1 => ?_))
  subst he
  refine ⟨(e0.mod.nolimit.keeps fun b o e => (e0.bs b o e).1).keeps x1.toInCall.keep, codeAny_func ?_⟩
  have hn : (setX B p.1).jp = JP.triv := rfl
  refine wpAny_mono ((hbody cdv A outer s H p hot hz (hr.deeper _)).run [] s1 (L2.start N [.ref p.1]) H { nx := fun _ H' => Q .non H', rt := Q } (L2H.inv_startH (ps := [x]) (us := [.ref p.1]) S hpin e0 rfl (.cons rfl .nil) x1) (pure_read (B := setX B p.1) (E := C8.E0) (fun _ _ _ => trivial) hsp)) (fun fl s' hs => ?_) fun e s' hs => hs
  cases fl with
  | ret u => obtain ⟨v, σ', H', J, rv, q⟩ := hs; exact ⟨v, H', J.os, J.bare, J.base, J.hok, rv, q⟩
  | next => obtain ⟨σ', H', J, q⟩ := hs; exact ⟨.non, H', J.os, J.bare, J.base, J.hok, rfl, q⟩
  | brk => obtain ⟨_, _, _, q⟩ := hs; exact False.elim q
  | cont => obtain ⟨_, _, _, q⟩ := hs; exact False.elim q
end
end Dn

set_option Elab.async false
set_option linter.all false
set_option maxRecDepth 100000
set_option maxHeartbeats 2000000
/-! Dn: a lambda handed to a def that tells its answer, or the word for its exception. -/
namespace Dn
open PySem PySem.Spec L2 PyProof.Rows LamX

/-! ### the lambda's context; exceptions bear no context -/
def lamN (X : Cx) (A : Around) (outer : List Env) (s : Shared) (H : Hp) (E : XK) (scope : Scope) (f c' : Addr) : Cx :=
  { lamCx X A outer s H E scope f c' with xe := fun e s' => wpAny (model X.prog X.w) (A.deeper (lamEnv X scope s.heap.objs.size f c')) (leaving (lamEnv X scope s.heap.objs.size f c') e) (fun _ s'' => L2N.CX X.prog X.w outer H s E e s'') (fun e' s'' => L2N.CX X.prog X.w outer H s E e' s'') s' }
section
variable {X : Cx} {pins : List (Addr × Obj)} {σ : L2.St} {H HZ : Hp} {s s1 : Shared}
theorem lam_start {A : Around} {outer : List Env} {E : XK} {scope : Scope} {f c' : Addr} {h1 : Heap} {tk : Nat} (I : Inv X pins σ H s) (L : LamS X.env.scope scope) (e0 : Env0 X.prog X.w X.K X.mg X.base A outer s1 HZ) (hd : A.handled = none)
    (un : Un (frs X.stack) [] H HZ s.heap s1.heap) (hns : h1.Ns s1.heap.objs.size fun y => ([] : List (Str × Value)).reverse.lookup y) (kp : ∀ b o, s1.heap.get? b = some o → h1.get? b = some o) :
    Inv (lamN X A outer s1 HZ E scope f c') [] σ HZ { s1 with heap := h1, toks := tk } := (lam_start2 (E := E) I L e0 hd un hns kp).wish _
/-- x(), x the lambda, in the def that got it -/
theorem pe_actN {Ng : List Str} {qg : Str} {sg : Scope} {g f c' : Addr} {cdg pm ctv : Value} {params : Arguments} {body : Expr} {scope : Scope} {k i : Nat} {a : Str} {pn : List (Addr × Obj)} {xe : Value → Shared → Prop} {W : WX} {E : XK} {tb : TE} {p1 p2 : Pos}
    (I : Inv X pins σ H s) (L : LamS X.env.scope scope) (hf : s.heap.get? f = some (PySem.W.kla_obj "<lambda>" (X.env.qual ++ "<lambda>") params body scope (cloFrom X.env.cells scope.names []) pm c' ctv)) (hfn : H f = none) (hfr : f ∉ frs X.stack)
    (hbind : bindArgs (PySem.W.kla_fn "<lambda>" (X.env.qual ++ "<lambda>") params body scope (cloFrom X.env.cells scope.names []) pm (.ref c') ctv) ⟨[], []⟩ = pure [])
    (tk : L2N.Takes ((cxOf C8.CX0 X.prog X.w X.K X.mg X.base Ng qg sg g cdg X.A X.stack s H C8.E0).nox.tr pn xe) W) (hW : ∀ cls d σ' H', E cls d H' → W cls d σ' H') (hr : Room (k + 1) (X.A.deeper (envOfC qg sg s.heap.objs.size g cdg)))
    (hbody : ∀ (A : Around) (outer : List Env) (s : Shared) (H : Hp), Room k (A.deeper (lamEnv X scope s.heap.objs.size f c')) → PE (lamN X A outer s H E scope f c') body tb)
    (hN : Ng[i]? = some a) (hv : Vis sg a) (hd : (a == ("__debug__" : Str)) = false := by decide) (hcd : (a == ("__classdict__" : Str)) = false := by decide) :
    PE ((cxOf C8.CX0 X.prog X.w X.K X.mg X.base Ng qg sg g cdg X.A X.stack s H C8.E0).nox.tr pn xe) (.Call (.Name a p1) [] [] p2)
      (fun σZ HZ Q => σZ[i]? = some (some (.ref f)) ∧ HZ c' = some (CodeO c' (X.env.qual ++ "<lambda>")) ∧ tb σ HZ Q) := by
  refine ⟨fun pinsZ sZ σZ HZ Q IZ ⟨hs, hc, ht⟩ => ?_⟩
  refine wpAny_Call_Name_kw (thn ((pe_var (pos := p1) (i := i) hN hv hd hcd).run pinsZ sZ σZ HZ (fun v H1 => v = .ref f ∧ H1 = HZ) IZ ⟨.ref f, hs, rfl, rfl⟩) fun u s1 ⟨v, H1, I1, r1, ev, eH⟩ => ?_)
  subst ev
  rw [eH] at I1
  obtain rfl : u = Value.ref f := r1
  have of1 := I1.base.keep f _ hf hfn hfr (fun z => nomatch (show f ∈ ([] : List Addr) from z))
  obtain ⟨⟨oc, vs, t, hoc, hdc, hvc⟩, _, _⟩ := I1.hok c' _ hc
  have rc : codeAny (model X.prog X.w) (X.A.deeper (envOfC qg sg s.heap.objs.size g cdg)) (.call (.ref f) ⟨[], []⟩) (CR (L2N.CX X.prog X.w) (envOfC qg sg s.heap.objs.size g cdg :: X.stack) X.prog X.w HZ s1 Q E) s1 := by
    refine PySem.W.kla_callFunE hr.depth of1 rfl L.co L.gen rfl ⟨c', oc, vs, t, rfl, hoc, hdc, hvc⟩ ?_
    rw [hbind]
    refine wpAny_pure (wpAny_newFunctionEnv (fun y hy => (L.own y hy).2) (fun y hy => absurd hy (by simp)) (fun h₁ hns hsb => ⟨I1.nolimit.fresh _ hsb, ?_⟩) L.kind)
    show codeAny _ _ (.expr body (lamEnv X scope s1.heap.objs.size f c')) _ _
    have J := lam_start (E := E) (scope := scope) (f := f) (c' := c') (A := X.A.deeper (envOfC qg sg s.heap.objs.size g cdg)) (outer := envOfC qg sg s.heap.objs.size g cdg :: X.stack) (tk := s1.toks + ([] : List (Str × Value)).length) I L I1.env0 hr.hd I1.base hns
      (fun b o e => hsb.extBut b o (Nat.ne_of_lt (Heap.lt_size e)) (Heap.get?_push_of_some _ e))
    refine PySem.W.kla_codeExpr (wpAny_mono ((hbody _ _ s1 HZ (hr.deeper _)).run [] _ _ HZ Q J ht) (fun v s' hq => ?_) fun e s' hq => hq)
    obtain ⟨w', H', J', rv, q⟩ := hq
    exact ⟨w', H', J'.os, J'.bare, J'.base, J'.hok, rv, q⟩
  refine PySem.W.callWith_F0 ⟨_, _, _, _, of1⟩ (wpAny_call (codeAny_mono rc fun r s' hq => ?_))
  cases r with
  | error e => exact L2N.passes_call tk hW pinsZ σZ HZ s1 e s' I1 hq
  | ok fl =>
    cases fl with
    | ret u => exact I1.after hq
    | _ => exact False.elim hq
end

/-! ### the def that tells -/
theorem pe_callX {X : Cx} {B : Bs} {k n i : Nat} {f a : Addr} {fd : FuncData} {x e wd : Str} {Fw : Nat → List D → Ret} {oe : Obj} {vs : Array Value} {cls : Value} {d : Option Addr} {p5 p6 p7 : Pos} (hX : ∀ c, c < n → FnX X.prog X.w X.K X.mg X.base B k f fd x (B.exA c) (Fw c)) (hr : L2H.RoomH k X.A) (hh : X.A.handled = some (.ref a)) (hp : (a, oe) ∈ X.pn) (dv : oe.data = .fields vs) (c2 : vs[2]? = some .none) (hz : Zc cls d oe)
    (hg : Gl X wd) (hm : X.mg wd = some (.ref f)) (hk : PySem.W.keepIn X.K (.ref f) = true) (hb : Binds X.K fd [x] []) (hi : X.N[i]? = some e) (hv : Vis X.env.scope e) (hd : (e == ("__debug__" : Str)) = false) (hcd : (e == ("__classdict__" : Str)) = false) (hdb : (wd == ("__debug__" : Str)) = false)
    (hs : starEach [.Name e p6] X.env = (false, eval (.Name e p6) X.env) :: starEach [] X.env := by rfl) (hpl : (backTo p7 (starEach [] X.env)).any (·.1) = false := by rfl) :
    PE X (.Call (.Name wd p5) [.Name e p6] [] p7) (fun σ H Q => σ[i]? = some (some (.ref a)) ∧ ∃ c, c < n ∧ cls = .ref (B.exA c) ∧ d = none ∧ spP (setX B a) 1 (Fw c) [.ref a] H Q C8.E0) := by
  refine ⟨fun pins s σ H Q I ⟨hσ, c, hc, ec, ed, h⟩ => ?_⟩
  subst ec ed
  have ha : PA X [.Name e p6] (tCons (tVar i) tNil) := pa_cons (pe_var hi hv hd hcd) pa_nil hs
  refine wpAny_Call_Name_kw (ld_glob I hg hm (PySem.W.callWith_K (h₀ := X.base) I.ok.mod.kin hk (thn (ha.run p7 pins s σ H (fun ws H1 => ws = [V.ref a] ∧ H1 = H) I ⟨.ref a, hσ, rfl, rfl⟩) fun us s1 ⟨ws, H1, I1, r1, ew, eH⟩ => ⟨I1.kIn, ?_⟩) hs hpl) hdb)
  subst ew
  rw [eH] at I1
  cases r1 with
  | cons ru rn =>
    cases rn
    obtain rfl := ru
    have P1 := I1.pin (a, oe) (List.mem_append_left _ hp)
    have b := hb s1 [.ref a] I1.kIn rfl
    rw [List.append_nil] at b
    refine wpAny_call (codeAny_mono ((hX c hc).run X.A X.stack s1 H ⟨[.ref a], []⟩ Q (a, oe) hr ⟨hh, vs, dv, c2⟩ ⟨P1.1, P1.2.1, fun hm => (List.mem_cons.mp (I1.stkSub a hm)).elim P1.2.2.1 P1.2.2.2.1, P1.2.2.2.2⟩ hz I1.env0 b h) fun r s' hq => ?_)
    cases r with
    | error e => exact (show False from hq).elim
    | ok fl =>
      cases fl with
      | ret u => exact I1.after hq
      | _ => exact False.elim hq
/-- the def that calls what it got: what it makes of the lambda's reading -/
def GivesN (X : Cx) (Ng : List Str) (x : Str) (sg : Scope) (g : Addr) (cdg : Value) (bg : List Stmt) (a : Str) (q : Str) (TT : (XK → Hp → VK → Prop) → Hp → VK → Prop) : Prop :=
  ∀ (f c' : Addr) (s : Shared) (H : Hp) (Q : VK) (tl : XK → Hp → VK → Prop),
    (∀ (W : WX) (pn : List (Addr × Obj)) (xe : Value → Shared → Prop) (E : XK) (p1 p2 : Pos), L2N.Takes ((cxOf C8.CX0 X.prog X.w X.K X.mg X.base Ng x sg g cdg X.A X.stack s H C8.E0).nox.tr pn xe) W → (∀ cls d σ H', E cls d H' → W cls d σ H') →
      PE ((cxOf C8.CX0 X.prog X.w X.K X.mg X.base Ng x sg g cdg X.A X.stack s H C8.E0).nox.tr pn xe) (.Call (.Name a p1) [] [] p2) (fun σZ HZ Q => σZ[0]? = some (some (.ref f)) ∧ HZ c' = some (CodeO c' q) ∧ tl E HZ Q)) →
    H c' = some (CodeO c' q) → TT tl H Q →
    ∃ t, PSs (cxOf C8.CX0 X.prog X.w X.K X.mg X.base Ng x sg g cdg X.A X.stack s H C8.E0).nox bg t ∧ t { nx := fun _ H' => Q .non H', rt := Q } (L2.start Ng [.ref f]) H
/-- try: return a() / except le as e: return wd(e) -/
def TTold (B : Bs) (n : Nat) (CS : Addr) (Fw : Nat → List D → Ret) : (XK → Hp → VK → Prop) → Hp → VK → Prop := fun tl H Q =>
  tl (fun cls d H' => ∃ c, c < n ∧ cls = .ref (B.exA c) ∧ d = none ∧ PySem.W.exmOne B.K cls (.ref CS) = some true ∧ ∀ a, H' a = none → spP (setX B a) 1 (Fw c) [.ref a] H' Q C8.E0) H Q
theorem takes0N {X : Cx} : L2N.Takes X (fun _ _ _ _ => False) := fun _ _ x => by
  obtain ⟨_, _, _, _, _, _, _, _, _, _, _, _, _, _, _, _, z⟩ := x
  exact z.elim
theorem told_givesN {X : Cx} {B : Bs} {k n : Nat} {fw g CS : Addr} {fdw : FuncData} {xw a e le wd x q : Str} {Fw : Nat → List D → Ret} {sg : Scope} {cdg : Value} {p1 p2 p3 p4 p5 p6 p7 p8 p9 p10 : Pos} (hK : B.K = X.K) (hr : Room (k + 1) X.A) (hN : [a, e].Nodup) (hle : sg.names.lookup e = some .local)
    (hX : ∀ c, c < n → FnX X.prog X.w X.K X.mg X.base B k fw fdw xw (B.exA c) (Fw c)) (hgl : sg.names.lookup le = some .globalImplicit) (hml : X.mg le = some (.ref CS)) (hgw : sg.names.lookup wd = some .globalImplicit) (hmw : X.mg wd = some (.ref fw)) (hkw : PySem.W.keepIn X.K (.ref fw) = true) (hbw : Binds X.K fdw [xw] [])
    (hdl : (le == ("__debug__" : Str)) = false := by decide) (hde : (e == ("__debug__" : Str)) = false := by decide) (hce : (e == ("__classdict__" : Str)) = false := by decide) (hdw : (wd == ("__debug__" : Str)) = false := by decide) :
    GivesN X [a, e] x sg g cdg [.Try [.Return (some (.Call (.Name a p1) [] [] p2)) p3] [.ExceptHandler (some (.Name le p4)) (some e) [.Return (some (.Call (.Name wd p5) [.Name e p6] [] p7)) p8] p9] [] [] p10] a q (TTold B n CS Fw) := by
  intro f c' s H Q tl act hc h
  refine ⟨_, pss_one (L2N.ps_try_as (X := (cxOf C8.CX0 X.prog X.w X.K X.mg X.base [a, e] x sg g cdg X.A X.stack s H C8.E0).nox) (c := .ref CS) (i := 1) (n := e) (Wout := fun _ _ _ _ => False)
    (tb := fun W D σ H => ∃ Ech : XK, (∀ cls d σ' H', σ'[1]? = σ'[1]? → Ech cls d H' → W cls d σ' H') ∧ σ[0]? = some (some (.ref f)) ∧ H c' = some (CodeO c' q) ∧ tl Ech H D.rt)
    (ts := fun a' cls d D σ H => (σ.length = 2 → σ[1]? = some (some (.ref a'))) ∧ ∃ c, c < n ∧ cls = .ref (B.exA c) ∧ d = none ∧ spP (setX B a') 1 (Fw c) [.ref a'] H D.rt C8.E0)
    rfl rfl hN rfl hle ⟨hgl, hdl, .inl hml⟩ takes0N (fun W pn xe tk _ => ?_) (fun a' oe cls d pn hz ⟨vs, hv⟩ => ?_)), ?_⟩
  · refine ⟨fun pins s' σ H' D I h' => ?_⟩
    obtain ⟨Ech, hW, h1, h2, h3⟩ := h'
    exact (pss_one (ps_ret (pos := p3) (act W pn xe Ech p1 p2 tk fun cls d σ' H' z => hW cls d σ' H' rfl z))).run pins s' σ H' D I ⟨h1, h2, h3⟩
  · have hr1 := (hr.deeper (envOfC x sg s.heap.objs.size g cdg))
    have h0 := (pss_one (ps_ret (pos := p8) (pe_callX (p5 := p5) (p6 := p6) (p7 := p7) (X := (cxOf C8.CX0 X.prog X.w X.K X.mg X.base [a, e] x sg g cdg X.A X.stack s H C8.E0).nox.suite a' ((a', oe) :: pn)) (i := 1) (e := e) hX ⟨hr1.dp, hr1.un⟩ rfl List.mem_cons_self hv (hz.2.2 vs hv) hz.zc hgw hmw hkw hbw rfl (.inl hle) hde hce hdw)))
    exact ⟨fun pins s' σ H' D I ⟨q1, q2⟩ => h0.run pins s' σ H' D I ⟨q1 I.len, q2⟩⟩
  · refine ⟨fun cls d H' => ∃ c, c < n ∧ cls = .ref (B.exA c) ∧ d = none ∧ PySem.W.exmOne B.K cls (.ref CS) = some true ∧ ∀ a, H' a = none → spP (setX B a) 1 (Fw c) [.ref a] H' Q C8.E0, fun cls d σ' H' _ ⟨c, h0, h1, h2, h3, h4⟩ => ⟨true, hK ▸ h3, fun _ a' ha => ⟨fun hl => List.getElem?_set_self (by rw [List.length_set] at hl; omega), c, h0, h1, h2, h4 a' ha⟩, fun z => by cases z⟩, rfl, hc, h⟩
end Dn

set_option Elab.async false
set_option linter.all false
set_option maxRecDepth 100000
set_option maxHeartbeats 2000000
/-! Dn: x(lambda: e). -/
namespace Dn
open PySem PySem.Spec L2 PyProof.Rows LamX

abbrev Grows (H H1 : Hp) : Prop := ∀ b, H b ≠ none → H1 b ≠ none
theorem grows_upd {H : Hp} {p : Addr} {o : HO} : Grows H (upd H p o) := fun b h => by
  by_cases hb : b = p
  · rw [hb, upd_same]; simp
  · rw [upd_ne hb]; exact h
section
variable {X : Cx} {pins : List (Addr × Obj)} {σ : L2.St} {H : Hp} {s : Shared}
/-- a lambda made; nothing tracked is lost -/
theorem lam_makeN {T : List (Addr × Str)} {c P : Addr} {params : Arguments} {body : Expr} {scope : Scope} {pos : Pos} {E : Value → Shared → Prop} {Q : Value → Shared → Prop} (I : Inv X pins σ H s) (TB : TabB X.base X.mg c P) (hcode : X.env.code = .ref c)
    (hm : (P, X.env.qual ++ "<lambda>") ∈ T) (hu : ∀ p ∈ T, p.1 = P → p.2 = X.env.qual ++ "<lambda>") (hT : Tabs T H) (hdef : defaultsOf params X.env = ([], [])) (hfree : ∀ y ∈ scope.names, y.2 = .free → ∃ c, X.env.cells.lookup y.1 = some c)
    (h : ∀ (f c' : Addr) (pm ctv : Value) (H1 : Hp) (s' : Shared), Inv X pins σ H1 s' → ExtN H H1 → Grows H H1 → Tabs T H1 →
      s'.heap.get? f = some (PySem.W.kla_obj "<lambda>" (X.env.qual ++ "<lambda>") params body scope (cloFrom X.env.cells scope.names []) pm c' ctv) → H1 f = none → f ∉ frs X.stack → H1 c' = some (CodeO c' (X.env.qual ++ "<lambda>")) → Q (.ref f) s') :
    wpAny (model X.prog X.w) X.A (eval (.Lambda params body scope pos) X.env) Q E s := by
  obtain ⟨ps, hP, ht, ha⟩ := hT _ hm
  have bP := TB.bm.keeps I.bk
  have hP' : s.heap.get? P = some { cls := .none, data := .fields ps } := I.hok P _ hP
  have nofr : ∀ f, s.heap.objs.size ≤ f → f ∉ frs X.stack := fun f hf z => (List.mem_cons.mp (I.stkSub _ z)).elim (fun e => by
    have h1 := I.lt
    rw [← e] at h1; exact Nat.lt_irrefl _ (Nat.lt_of_lt_of_le h1 hf)) fun e => I.nofs hf e
  refine PySem.W.kla_eval hdef ?_
  cases hc : codeAmong pos ps.toList with
  | some cv =>
    obtain ⟨c', e, hco⟩ := ha pos cv hc
    subst e
    refine PySem.W.kla_makeFunctionHit (mg := X.mg) (c := c) (P := P) (ps := ps) (closure_ok hfree) I.ok.glob (I.mod.glob.keeps I.bk) hcode (TB.code.keeps I.bk) hP' ht hc bP fun ctv h' tk hx hsz => ?_
    exact h h'.objs.size c' ((X.mg "__name__").getD .none) ctv H _ (I.kept (h' := h'.push (PySem.W.kla_obj "<lambda>" (X.env.qual ++ "<lambda>") params body scope (cloFrom X.env.cells scope.names []) ((X.mg "__name__").getD .none) c' ctv)) (t' := tk) fun b o e => Heap.get?_push_of_some _ (hx b o e)) (ExtN.refl H) (fun _ z => z) hT (Heap.get?_push_size _ rfl) (I.hok.fresh hsz) (nofr _ hsz) hco
  | none =>
    refine PySem.W.kla_makeFunction (mg := X.mg) (c := c) (P := P) (ps := ps) (closure_ok hfree) I.ok.glob (I.mod.glob.keeps I.bk) hcode (TB.code.keeps I.bk) hP' ht hc TB.gP bP fun c' ctv h' tk hx hge hlt ⟨c2, oc, vs, t, e2, hoc, hd, hv⟩ htb => ?_
    cases e2
    have hsz : s.heap.objs.size ≤ h'.objs.size := Nat.le_trans hge (Nat.le_of_lt hlt)
    have nC : H c' = none := I.hok.fresh hge
    have I1 := inv_table (t' := tk) (more := #[rawInt pos.line, rawInt pos.col, .ref c']) (h' := h'.push (PySem.W.kla_obj "<lambda>" (X.env.qual ++ "<lambda>") params body scope (cloFrom X.env.cells scope.names []) ((X.mg "__name__").getD .none) c' ctv)) I hP
      (fun b o hb e => Heap.get?_push_of_some _ (hx b o hb e)) (Heap.get?_push_of_some _ htb) hge ⟨oc, vs, t, Heap.get?_push_of_some _ hoc, hd, hv⟩
    have hE : ExtN H (upd (upd H P (.tbl (ps ++ #[rawInt pos.line, rawInt pos.col, .ref c']))) c' (CodeO c' (X.env.qual ++ "<lambda>"))) := fun b o e n => by
      rw [upd_ne (ne_of_none e nC), upd_ne (fun z => n ps (Option.some.inj (e.symm.trans (by rw [z]; exact hP))))]; exact e
    have fresh2 : upd (upd H P (.tbl (ps ++ #[rawInt pos.line, rawInt pos.col, .ref c']))) c' (CodeO c' (X.env.qual ++ "<lambda>")) h'.objs.size = none := by
      rw [upd_ne (Nat.ne_of_gt hlt), upd_ne (Nat.ne_of_gt (Nat.lt_of_lt_of_le (Heap.lt_size hP') hsz))]; exact I.hok.fresh hsz
    refine h h'.objs.size c' ((X.mg "__name__").getD .none) ctv _ _ I1 hE (fun b z => grows_upd b (grows_upd b z)) (fun p hp => ?_) (Heap.get?_push_size _ rfl) fresh2 (nofr _ hsz) upd_same
    by_cases hb : p.1 = P
    · rw [hu p hp hb, hb]
      have eL : (ps ++ #[rawInt pos.line, rawInt pos.col, .ref c']).toList = ps.toList ++ [rawInt pos.line, rawInt pos.col, .ref c'] := by simp
      refine ⟨_, by rw [upd_ne (ne_of_none hP nC), upd_same], by rw [eL]; exact PySem.TriplesOk_snoc _ _ _ _ ht, fun p' cv hcv => ?_⟩
      rw [eL] at hcv
      exact (among_app _ ht hcv).elim (fun z => let ⟨c0, e1, e2⟩ := ha p' cv z; ⟨c0, e1, hE _ _ e2 codeO_ne⟩) fun z => ⟨c', z, upd_same⟩
    · obtain ⟨ps', a1, a2, a3⟩ := hT p hp
      exact ⟨ps', by rw [upd_ne (ne_of_none a1 nC), upd_ne hb]; exact a1, a2, fun p' cv hcv => let ⟨c0, e1, e2⟩ := a3 p' cv hcv; ⟨c0, e1, hE _ _ e2 codeO_ne⟩⟩
end
def tLamN (T : List (Addr × Str)) (TT : (XK → Hp → VK → Prop) → Hp → VK → Prop) (t : XK → TE) : TE := fun σ H Q => Tabs T H ∧ ∀ H1, ExtN H H1 → Grows H H1 → Tabs T H1 → TT (fun E H' Q' => t E σ H' Q') H1 Q
theorem pe_lamcallN {X : Cx} {T : List (Addr × Str)} {TT : (XK → Hp → VK → Prop) → Hp → VK → Prop} {x a : Str} {g c P : Addr} {fdg : FuncData} {k : Nat} {pg : Arguments} {bg : List Stmt} {sg : Scope} {Ng : List Str} {params : Arguments} {body : Expr} {scope : Scope} {t : XK → TE} {p lpos pos : Pos}
    (hg : Gl X x) (hm : X.mg x = some (.ref g)) (Fd : FunD X.K x x pg bg sg [] [] g fdg) (hb : L2.Binds X.K fdg [a] []) (Sg : FnScope Ng [a] sg) (hNg : Ng[0]? = some a) (hva : Vis sg a) (hG : ∀ cdv, GivesN X Ng x sg g cdv bg a (X.env.qual ++ "<lambda>") TT)
    (TB : TabB X.base X.mg c P) (hcode : X.env.code = .ref c) (hmT : (P, X.env.qual ++ "<lambda>") ∈ T) (hu : ∀ p ∈ T, p.1 = P → p.2 = X.env.qual ++ "<lambda>") (hr : Room (k + 2) X.A) (L : LamS X.env.scope scope) (hdef : defaultsOf params X.env = ([], []))
    (hbind : ∀ (q : Str) (cl : List (Str × Addr)) (pm cv ctv : Value), bindArgs (PySem.W.kla_fn "<lambda>" q params body scope cl pm cv ctv) ⟨[], []⟩ = pure [])
    (hbody : ∀ (A : Around) (outer : List Env) (s : Shared) (H : Hp) (E : XK) (f c' : Addr), Room k (A.deeper (lamEnv X scope s.heap.objs.size f c')) → PE (lamN X A outer s H E scope f c') body (t E))
    (hdb : (x == ("__debug__" : Str)) = false := by decide) (hd : (a == ("__debug__" : Str)) = false := by decide) (hcd : (a == ("__classdict__" : Str)) = false := by decide) :
    PE X (.Call (.Name x p) [.Lambda params body scope lpos] [] pos) (tLamN T TT t) := by
  refine ⟨fun pins s σ H Q I ⟨hT, h⟩ => ?_⟩
  refine wpAny_Call_Name_kw (ld_glob I hg hm (PySem.W.callWith_K (h₀ := X.base) I.ok.mod.kin Fd.kp ?_ (by rfl) (by rfl)) hdb)
  show wpAny _ _ (spliced ((false, eval (.Lambda params body scope lpos) X.env) :: backTo pos (starEach [] X.env))) _ _ s
  refine Calls.spliced_cons (lam_makeN I TB hcode hmT hu hT hdef (L.has I.ok) fun f c' pm' ctv H1 s' I1 eN gr T1 hf hfn hfr hco => Calls.spliced_nil ⟨I1.kIn, ?_⟩)
  obtain ⟨oc, od, dV, kV, doc, pm, an, cdv, ct, osl, efd, lk, hcg, _, _⟩ := Fd.ex
  subst efd
  refine wpAny_call (codeAny_mono (run_ofS (CX := C8.CX0) (E := C8.E0) (Q := Q) (N := Ng) (ps := [a]) (us := [.ref f]) (vs := [.ref f]) lk hcg Sg hr I1.env0 (hb s' [.ref f] I1.kIn rfl) (.cons rfl .nil) rfl fun hr' => ?_) fun r s2 hq => ?_)
  · obtain ⟨t', ht', hq'⟩ := hG cdv f c' s' H1 Q (fun E H' Q' => t E σ H' Q') (fun W pn xe E p1 p2 tk hW => pe_actN (i := 0) I1 L hf hfn hfr (hbind _ _ _ _ _) tk hW hr' (fun A outer s H hr2 => hbody A outer s H E f c' hr2) hNg hva hd hcd) hco (h H1 eN gr T1)
    exact ⟨t', ht'.nox, hq'⟩
  · cases r with
    | error e => exact (show False from hq).elim
    | ok fl =>
      cases fl with
      | ret u => exact I1.after hq
      | _ => exact False.elim hq
end Dn

set_option Elab.async false
set_option linter.all false
set_option maxRecDepth 100000
set_option maxHeartbeats 2000000
/-! Dn: the rule for x(lambda: e). -/
namespace Dn
open PySem PySem.Spec L2 PyProof.Rows LamX

mutual
/-- no exception in it -/
def nq : D → Bool
  | .tup xs => nqs xs
  | .lst xs => nqs xs
  | .dct _ => false
  | .dck _ => false
  | .opq => false
  | .non => true
  | .bl _ => true
  | .int _ => true
  | .str _ => true
def nqs : List D → Bool
  | [] => true
  | x :: xs => nq x && nqs xs
end
mutual
theorem Rel.unx {B : Bs} {F : Hp} {a : Addr} : ∀ {v : V} {d : D}, nq d = true → Rel (setX B a) F v d → Rel B F v d
  | _, _, _, .non => .non
  | _, _, _, .bl b => .bl b
  | _, _, _, .int i => .int i
  | _, _, _, .str s => .str s
  | _, _, e, .tup q r => .tup q (Rels.unx (by rw [nq] at e; exact e) r)
  | _, _, e, .lst q r => .lst q (Rels.unx (by rw [nq] at e; exact e) r)
  | _, _, e, .dct _ _ => by simp [nq] at e
  | _, _, e, .dck _ _ => by simp [nq] at e
  | _, _, e, .opq _ => by simp [nq] at e
theorem Rels.unx {B : Bs} {F : Hp} {a : Addr} : ∀ {v : List V} {d : List D}, nqs d = true → Rels (setX B a) F v d → Rels B F v d
  | _, _, _, .nil => .nil
  | _, _, e, .cons q r => by
    rw [nqs, Bool.and_eq_true] at e
    exact .cons (Rel.unx e.1 q) (Rels.unx e.2 r)
end
/-- x(lambda: f): f's answer, or the word for its exception -/
def dTold (n : Nat) (Fw : Nat → List D → Ret) (f : DE) : DE := fun sl S => match f sl S with
  | .ok x S1 => .ok x S1
  | .exc c S1 => if c < n then (match Fw c [.opq] with
    | .ok d => if nq d = true then .ok (.d d) S1 else .bad
    | _ => .bad) else .bad
  | .bad => .bad
section
variable {X : Cx} {B : Bs} {W : WX} {T : List (Addr × Str)}
theorem w_told (hjp : B.jp = JP.tabs T) {n : Nat} {CS : Addr} {Fw : Nat → List D → Ret} {f : DE} (hx : ∀ c, c < n → PySem.W.exmOne B.K (.ref (B.exA c)) (.ref CS) = some true) {σ : L2.St} {H : Hp} {Q : VK} (h : denE B W (dTold n Fw f) σ H Q) :
    tLamN T (TTold B n CS Fw) (fun E => denE B (wE E) f) σ H Q := by
  obtain ⟨Hk, m, F, sl, S, R, R2, q⟩ := h
  have j : (JP.tabs T).J Hk m H := hjp ▸ R.j
  refine ⟨fun p hp => ?_, fun H1 eN gr T1 => ?_⟩
  · obtain ⟨_, ps, h1, h2, h3⟩ := j.2 p hp
    exact ⟨ps, h1, h2, fun pos cv e => let ⟨c, e1, e2, _⟩ := h3 pos cv e; ⟨c, e1, e2⟩⟩
  have at_ : ∀ a ∈ m, H1 a = H a := fun a ha => by
    cases e : H a with
    | none => exact absurd e (R.there a ha)
    | some o => exact eN a o e (R.nc a ha o e).1
  have R1 : RH B Hk m F S H1 := by
    refine ⟨fun b o e => eN b o (R.keep b o e) (fun ps z => j.1 b ps (z ▸ e)), fun b o e => eN b o (R.froz b o e) (fun ps z => R.nt b ps (z ▸ e)), R.len, R.nd, fun a ha => gr a (R.there a ha), R.free, R.nt, fun a ha o e => R.nc a ha o (by rw [← at_ a ha]; exact e), ?_, fun k a c h1 h2 => (R.cell k a c h1 h2).keep ⟨[], by simp⟩ (fun _ _ z => z) (at_ a (mem_get h1)) fun z => z⟩
    rw [hjp]
    refine ⟨j.1, fun p hp => ?_⟩
    obtain ⟨ps, h1, h2, h3⟩ := T1 p hp
    refine ⟨(j.2 p hp).1, ps, h1, h2, fun pos cv e => ?_⟩
    obtain ⟨c, e1, e2⟩ := h3 pos cv e
    refine ⟨c, e1, e2, fun hc => ?_⟩
    rw [at_ c hc] at e2
    exact (R.nc c hc _ e2).2 c p.2 rfl
  have G1 : Grow m F H m F H1 := ⟨⟨[], by simp⟩, fun _ z => .inl z, fun _ _ z => z, fun _ z _ _ => z, gr⟩
  refine ⟨Hk, m, F, sl, S, R1, R2, ?_⟩
  unfold dTold at q
  cases e : f sl S with
  | bad => rw [e] at q; exact q
  | ok x S1 => rw [e] at q; exact fun v H' m' F' R' G r => q v H' m' F' R' (G1.trans G) r
  | exc c S1 =>
    rw [e] at q
    dsimp only at q
    split at q
    · rename_i hc
      cases ew : Fw c [.opq] with
      | exc _ => rw [ew] at q; exact False.elim q
      | bad => rw [ew] at q; exact False.elim q
      | ok d =>
        rw [ew] at q
        dsimp only at q
        split at q
        · rename_i hn
          refine fun H' m' F' R' G => ⟨c, hc, rfl, rfl, hx c hc, fun a ha => ⟨F', [.opq], R'.froz, R'.nt, .cons (.opq rfl) .nil, rfl, ?_⟩⟩
          rw [ew]
          intro v H2 F2 s1 s2 s3 nt fr r
          obtain ⟨R3, G3⟩ := R'.ext s1 s2 s3 nt fr
          exact q v H2 m' F2 R3 ((G1.trans G).trans G3) (.d (Rel.unx hn r))
        · exact False.elim q
    · exact False.elim q
/-- the lambda's context -/
theorem CtxOk.lam {A : Around} {outer : List Env} {s : Shared} {H : Hp} {E : XK} {scope : Scope} {f c' : Addr} {k j : Nat} (c : CtxOk B X W k) (hr : Room j (A.deeper (lamEnv X scope s.heap.objs.size f c'))) : CtxOk B (lamN X A outer s H E scope f c') (wE E) j where
  bx := ⟨c.bx.P, c.bx.w, c.bx.K, c.bx.mg⟩
  calm := rfl
  nd := c.nd
  hu := by have := hr.un; show (A.deeper (lamEnv X scope s.heap.objs.size f c')).units + 100 < cLine; omega
  tk := L2N.takes_of rfl rfl rfl rfl
  po := passes_of rfl
  rm := hr
/-- what stands for x: the def that tells -/
structure ToldB (X : Cx) (B : Bs) (T : List (Addr × Str)) (x : Str) (n : Nat) (Fw : Nat → List D → Ret) (k : Nat) (cA PA : Addr) : Prop where
  ex : ∃ (a : Str) (g CS : Addr) (fdg : FuncData) (pg : Arguments) (bg : List Stmt) (sg : Scope) (Ng : List Str), X.mg x = some (.ref g) ∧ FunD X.K x x pg bg sg [] [] g fdg ∧ L2.Binds X.K fdg [a] [] ∧ FnScope Ng [a] sg ∧ Ng[0]? = some a ∧ Vis sg a ∧ (a == ("__debug__" : Str)) = false ∧ (a == ("__classdict__" : Str)) = false ∧
    (∀ cdv, GivesN X Ng x sg g cdv bg a (X.env.qual ++ "<lambda>") (TTold B n CS Fw)) ∧ ∀ c, c < n → PySem.W.exmOne B.K (.ref (B.exA c)) (.ref CS) = some true
  jp : B.jp = JP.tabs T
  TB : TabB X.base X.mg cA PA
  code : X.env.code = .ref cA
  mT : (PA, X.env.qual ++ "<lambda>") ∈ T
  uT : ∀ p ∈ T, p.1 = PA → p.2 = X.env.qual ++ "<lambda>"
theorem de_told {x : Str} {n k : Nat} {Fw : Nat → List D → Ret} {cA PA : Addr} {params : Arguments} {body : Expr} {scope : Scope} {f : DE} {p lpos pos : Pos} (c : CtxOk B X W (k + 2)) (t : ToldB X B T x n Fw k cA PA)
    (hbody : ∀ (A : Around) (outer : List Env) (s : Shared) (H : Hp) (E : XK) (g c' : Addr), CtxOk B (lamN X A outer s H E scope g c') (wE E) k → PE (lamN X A outer s H E scope g c') body (denE B (wE E) f))
    (hg : Gl X x := by rfl) (L : lamSB X.env.scope scope = true := by kernel_rfl) (hdef : defaultsOf params X.env = ([], []) := by rfl)
    (hbind : ∀ (q : Str) (cl : List (Str × Addr)) (pm cv ctv : Value), bindArgs (PySem.W.kla_fn "<lambda>" q params body scope cl pm cv ctv) ⟨[], []⟩ = pure [] := by intros; rfl) (hdb : (x == ("__debug__" : Str)) = false := by decide) :
    PE X (.Call (.Name x p) [.Lambda params body scope lpos] [] pos) (denE B W (dTold n Fw f)) := by
  obtain ⟨a, g, CS, fdg, pg, bg, sg, Ng, h1, h2, h3, h4, h5, h6, h7, h8, h9, h10⟩ := t.ex
  exact PE_weak (pe_lamcallN hg h1 h2 h3 h4 h5 h6 h9 t.TB t.code t.mT t.uT c.rm (lamS_by L) hdef hbind (fun A outer s H E f c' hr => hbody A outer s H E f c' (c.lam hr)) hdb h7 h8) fun _ _ _ q => w_told t.jp h10 q
end
end Dn

set_option Elab.async false
set_option linter.all false
set_option maxRecDepth 100000
set_option maxHeartbeats 2000000
/-! Dn: l.index(x); defs that hand out cells; what the judging def's derivation needs. -/
namespace Dn
open PySem L2 PyProof.Rows

/-! ### l.index(x) -/
def idxOf (d : D) : Nat → List D → Option Nat
  | _, [] => none
  | i, x :: xs => if eqv x d then some i else idxOf d (i + 1) xs
theorem idxOf_spec {d : D} : ∀ {ds : List D} {i k : Nat}, idxOf d i ds = some k → ∃ j z, k = i + j ∧ ds[j]? = some z ∧ eqv z d = true ∧ ∀ m z', m < j → ds[m]? = some z' → eqv z' d = false
  | [], i, k, h => by simp [idxOf] at h
  | x :: xs, i, k, h => by
    rw [idxOf] at h
    by_cases hx : eqv x d = true
    · rw [if_pos hx] at h
      cases h
      exact ⟨0, x, rfl, rfl, hx, fun m z' hm _ => absurd hm (Nat.not_lt_zero m)⟩
    · rw [if_neg hx] at h
      obtain ⟨j, z, rfl, h1, h2, h3⟩ := idxOf_spec h
      refine ⟨j + 1, z, by omega, by simpa using h1, h2, fun m z' hm hz => ?_⟩
      cases m with
      | zero => simp at hz; subst hz; exact Bool.eq_false_iff.mpr hx
      | succ m => exact h3 m z' (by omega) (by simpa using hz)
theorem toPys_map (ds : List D) : toPys ds = ds.map toPy := by
  induction ds with
  | nil => rfl
  | cons x xs ih => rw [toPys, ih]; rfl
def indexD (a b : D) : Option D := match a with
  | .lst ds => if okD 60 (.lst ds) && okD 60 b then (idxOf b 0 ds).map fun (i : Nat) => D.int (i : Int) else none
  | _ => none
def kIndex (x : Val) (xs : List Val) (S : Sto) : Out Val := match xs with
  | [y] => Out.of ((asD S x).bind fun a => (asD S y).bind fun b => (indexD a b).map .d) S
  | _ => .bad
section
variable {X : Cx} {B : Bs} {W : WX}
theorem p_index (hB : BX B X) : PrimM B W (rIndexD X.K) kIndex := by
  intro Hk σ m F S H v x vs xs Q R rx rxs p
  unfold kIndex at p
  cases rxs with
  | nil => exact False.elim p
  | cons ry rr =>
    cases rr with
    | cons _ _ => exact False.elim p
    | nil =>
      obtain ⟨z, e, p⟩ := of_post p
      obtain ⟨a, ha, e⟩ := Option.bind_eq_some_iff.mp e
      obtain ⟨b, hb, e⟩ := Option.bind_eq_some_iff.mp e
      obtain ⟨c, hc, rfl⟩ := Option.map_eq_some_iff.mp e
      have l1 := look R rx ha
      have l2 := look R ry hb
      cases a with
      | lst ds =>
        simp only [indexD] at hc
        split at hc
        · rename_i hz
          obtain ⟨i, hi, rfl⟩ := Option.map_eq_some_iff.mp hc
          simp only [Bool.and_eq_true] at hz
          obtain ⟨j, z, rfl, h1, h2, h3⟩ := idxOf_spec hi
          have hds : okDs 59 ds = true := by have := hz.1; rw [okD] at this; exact this
          rw [okDs_all, List.all_eq_true] at hds
          have okz : ∀ {z : D} {i : Nat}, ds[i]? = some z → okD 59 z = true := fun h => hds _ (List.mem_of_getElem? h)
          have d1 := hB.K ▸ (l1.rel R.froz).dp 60 hz.1
          have s1 := shaped_of hz.1
          rw [toPy, toPys_map] at d1 s1
          have l1' := l1
          cases l1' with
          | lst q r =>
            refine ⟨_, _, toPy b, _, j, toPy z, rfl, rfl, d1, hB.K ▸ (l2.rel R.froz).dp 60 hz.2, s1, shaped_of hz.2, by rw [List.getElem?_map, h1]; rfl, by rw [eqv_py 59 60 z b (okz h1) hz.2]; exact h2, fun m z' hm hz' => ?_, ?_⟩
            · rw [List.getElem?_map] at hz'
              obtain ⟨z2, e2, rfl⟩ := Option.map_eq_some_iff.mp hz'
              rw [eqv_py 59 60 z2 b (okz e2) hz.2]
              exact h3 m z2 hm e2
            · have := p (.int ((0 + j : Nat) : Int)) H m F R (Grow.refl _ _ _) (.d (.int _))
              rw [Nat.zero_add] at this
              exact this
        · cases hc
      | _ => simp [indexD] at hc

/-! ### a def that hands out a cell -/
def dCallM (Fm : List Val → Sto → Out Val) (fa : DA) : DE := fun sl S => (fa sl S).bind Fm
theorem cb_callM {k j n : Nat} {x : Str} {ps : List Str} {p pos : Pos} {e : Expr} {es : List Expr} {fa : DA} {Fm : List Val → Sto → Out Val} (c : CtxOk B X W k) (h : FnB X.prog X.w X.K X.mg X.base j x ps (spM B n Fm)) (hj : j ≤ k) (ha : PA X (e :: es) (denA B W fa)) (hl : lenA fa n) (hg : Gl X x := by rfl) (hdb : (x == ("__debug__" : Str)) = false := by decide)
    (he : starEach (e :: es) X.env = (false, eval e X.env) :: starEach es X.env := by rfl) (hpl : (backTo pos (starEach es X.env)).any (·.1) = false := by rfl) : PE X (.Call (.Name x p) (e :: es) [] pos) (denE B W (dCallM Fm fa)) := by
  obtain ⟨f, fd, h1, h2, h3, h4⟩ := h.ex
  refine PE_weak (pe_callS h1 (c.rm.mono hj) hg h2 h3 h4 (L2N.passAt c.tk) ha hdb he hpl) fun σ H Q ⟨Hk, m, F, sl, S, R, R2, q⟩ => ?_
  refine den_mono (den_aLen hl (den_step (rel := relA B) (rel2 := relE B) (k := Fm) R R2 q)) fun ws H2 ⟨hn, m2, F2, S2, xs, R3, R23, G2, r2, p2⟩ => ⟨Hk, m2, F2, S2, xs, R3, r2, hn, ?_⟩
  cases ef : Fm xs S2 with
  | ok y S3 => rw [ef] at p2; exact p2
  | exc c S3 => rw [ef] at p2; exact fun H' m' F' R G => p2 H' m' F' R G
  | bad => rw [ef] at p2; exact p2
/-! ### the judging def -/
structure HotOk (B : Bs) (X : Cx) (C : Addr) (p : Addr × Obj) : Prop where
  bx : BX B X
  nd : X.N.Nodup
  hu : X.A.units + 100 < cLine
  hot : L2H.HotC X
  hp : (p.1, p.2) ∈ X.pn
  hz : Zc (.ref C) none p.2
  hf : ∃ vs, p.2.data = .fields vs
  xv : B.xv = some p.1
theorem hot_of {B : Bs} {P : Program} {w : World} {K : PySem.W.Frag} {mg : Str → Option Value} {base : Heap} {N : List Str} {qual : Str} {scope : Scope} {f C : Addr} {cd : Value} {A : Around} {outer : List Env} {s : Shared} {H : Hp} {E : XK} {k : Nat} {p : Addr × Obj} (hB : BX B (L2H.cxH C8.CX0 P w K mg base N qual scope f cd A outer s H E p)) (hN : N.Nodup) (h1 : L2H.Hot1 A p) (hz : Zc (.ref C) none p.2)
    (hr : L2H.RoomH k (A.deeper (envOfC qual scope s.heap.objs.size f cd))) (hx : B.xv = some p.1) : HotOk B (L2H.cxH C8.CX0 P w K mg base N qual scope f cd A outer s H E p) C p where
  bx := hB
  nd := hN
  hu := by have := hr.un; show (A.deeper (envOfC qual scope s.heap.objs.size f cd)).units + 100 < cLine; omega
  hot := ⟨p, h1, List.mem_cons_self⟩
  hp := List.mem_cons_self
  hz := hz
  hf := let ⟨_, vs, e, _⟩ := h1; ⟨vs, e⟩
  xv := hx
theorem HotOk.hu64 {C : Addr} {p : Addr × Obj} (c : HotOk B X C p) : X.A.units + 64 < cLine := by have := c.hu; omega
theorem HotOk.hu65 {C : Addr} {p : Addr × Obj} (c : HotOk B X C p) : X.A.units + 65 < cLine := by have := c.hu; omega
theorem CtxOk.hu65 {k : Nat} (c : CtxOk B X W k) : X.A.units + 65 < cLine := by have := c.hu; omega
end
end Dn

set_option Elab.async false
set_option linter.all false
set_option maxRecDepth 100000
set_option maxHeartbeats 2000000
/-! Dn: what the head tells, as the bundles want it. -/
namespace Dn
open PySem PySem.Spec PyProof.Rows L2 He

mutual
/-- the value u is the data d, by what K holds -/
def relK (K : PySem.W.Frag) : D → Value → Bool
  | .non, u => (match u with | .none => true | _ => false)
  | .bl b, u => (match u with | .bool c => b == c | _ => false)
  | .int i, u => (match u with | .int j _ => decide (i = j) | _ => false)
  | .str s, u => (match u with | .str y _ => decide (y = ⟨s.toArray⟩) | _ => false)
  | .tup ds, u => (match u with
    | .ref a => (match K.lookup a with
      | some ⟨.type c, _, .seq its _, _⟩ => decide (c = "tuple") && (decide (its.size ≤ sizeLine) && relKs K ds its.toList)
      | _ => false)
    | _ => false)
  | .lst _, _ => false
  | .dct _, _ => false
  | .dck _, _ => false
  | .opq, _ => false
def relKs (K : PySem.W.Frag) : List D → List Value → Bool
  | [], us => us.isEmpty
  | d :: ds, us => (match us with
    | u :: r => relK K d u && relKs K ds r
    | [] => false)
end
mutual
theorem relK_ok {B : Bs} : ∀ {d : D} {u : Value}, relK B.K d u = true → ∃ v, RelV v u ∧ ∀ F, Rel B F v d
  | .non, u, h => by
    cases u <;> simp [relK] at h
    exact ⟨.non, rfl, fun _ => .non⟩
  | .bl b, u, h => by
    cases u <;> simp [relK] at h
    subst h; exact ⟨.bl b, rfl, fun _ => .bl b⟩
  | .int i, u, h => by
    cases u <;> simp [relK] at h
    subst h; exact ⟨.int i, ⟨_, rfl⟩, fun _ => .int i⟩
  | .str s, u, h => by
    cases u <;> simp [relK] at h
    subst h; exact ⟨.str ⟨s.toArray⟩, ⟨_, rfl⟩, fun _ => .str s⟩
  | .tup ds, u, h => by
    cases u with
    | ref a =>
      rw [relK] at h
      cases q : B.K.lookup a with
      | none => rw [q] at h; cases h
      | some o =>
        obtain ⟨oc, od, dt, osl⟩ := o
        rw [q] at h
        cases oc with
        | type c =>
          cases dt with
          | seq its n =>
            obtain ⟨h1, h2⟩ := ba h
            obtain ⟨h3, h4⟩ := ba h2
            obtain ⟨vs, r1, r2⟩ := relKs_ok (B := B) h4
            exact ⟨.ref a, rfl, fun F => .tup (.inr ⟨_, its, n, q, congrArg Value.type (of_decide_eq_true h1), rfl, of_decide_eq_true h3, r1⟩) (r2 F)⟩
          | _ => cases h
        | _ => cases dt <;> cases h
    | _ => simp [relK] at h
  | .lst _, u, h => by simp [relK] at h
  | .dct _, u, h => by simp [relK] at h
  | .dck _, u, h => by simp [relK] at h
  | .opq, u, h => by simp [relK] at h
theorem relKs_ok {B : Bs} : ∀ {ds : List D} {us : List Value}, relKs B.K ds us = true → ∃ vs, Vals vs us ∧ ∀ F, Rels B F vs ds
  | [], us, h => by
    cases us with
    | nil => exact ⟨[], .nil, fun _ => .nil⟩
    | cons _ _ => simp [relKs] at h
  | d :: ds, us, h => by
    cases us with
    | nil => simp [relKs] at h
    | cons u r =>
      rw [relKs] at h
      obtain ⟨h1, h2⟩ := ba h
      obtain ⟨v, r1, r2⟩ := relK_ok (B := B) h1
      obtain ⟨vs, r3, r4⟩ := relKs_ok (B := B) h2
      exact ⟨v :: vs, .cons r1 r3, fun F => .cons (r2 F) (r4 F)⟩
end
def gcB (K : PySem.W.Frag) (x : Str) (d : D) : Bool := match PySem.W.nsIn K mainGlobals x with
  | some (some u) => relK K d u
  | _ => false
theorem gc_of {B : Bs} {h : Heap} (X : B.K.In h) (G : h.Ns mainGlobals B.mg) {x : Str} {d : D} (e : gcB B.K x d = true) : GC B x d := by
  unfold gcB at e
  cases q : PySem.W.nsIn B.K mainGlobals x with
  | none => rw [q] at e; cases e
  | some r =>
    rw [q] at e
    cases r with
    | none => cases e
    | some u =>
      obtain ⟨v, h1, h2⟩ := relK_ok (B := B) e
      exact ⟨v, u, PySem.W.mg_of X G q, h1, h2⟩
def kdB (K : PySem.W.Frag) (x : Str) (kvs : List (List Nat × D)) : Bool := kvs.all fun q => match PySem.W.nsIn K (ga K x) ⟨q.1.toArray⟩ with
  | some (some u) => relK K q.2 u
  | _ => false
theorem kd_of {B : Bs} {w : World} {x : Str} {kvs : List (List Nat × D)} (hg : B.mg x = some (.ref (ga B.K x))) (hd : ∃ es n, KDict B.K w (ga B.K x) es n) (e : kdB B.K x kvs = true) : KD B w x kvs := by
  refine ⟨_, hg, fun s d hs => ?_⟩
  unfold kdLook at hs
  obtain ⟨q, hq, rfl⟩ := Option.map_eq_some_iff.mp hs
  have h1 := List.all_eq_true.mp e q (List.mem_of_find?_eq_some hq)
  have h2 : q.1 = s := by simpa using List.find?_some hq
  subst h2
  cases z : PySem.W.nsIn B.K (ga B.K x) ⟨q.1.toArray⟩ with
  | none => rw [z] at h1; cases h1
  | some r =>
    rw [z] at h1
    cases r with
    | none => cases h1
    | some u =>
      obtain ⟨v, r1, r2⟩ := relK_ok (B := B) h1
      obtain ⟨es, n, k1, k2, k3⟩ := hd
      exact ⟨v, ⟨es, n, u, k1, k2, z, r1⟩, r2⟩
/-- no list is kept -/
def noLst (K : PySem.W.Frag) : Bool := K.all fun q => match q.2.cls with
  | .type c => !decide (c = "list")
  | _ => true
theorem noLst_ok {K : PySem.W.Frag} {a : Addr} {o : Obj} (h : noLst K = true) (e : K.lookup a = some o) (hc : o.cls = .type "list") : False := by
  have := List.all_eq_true.mp h (a, o) (lookup_mem e)
  dsimp only at this
  rw [hc] at this
  simp at this
/-- an own error class, as isinstance asks it -/
def excCB (K : PySem.W.Frag) (C : Addr) : Bool := eqO (PySem.W.findIn K (.ref C) "__getattribute__") (some (some (.builtin "BaseException.__getattribute__"))) && (eqO (PySem.W.findIn K (.ref C) "__getattr__") (some none) && (decide (PySem.W.subIn K (.ref C) (.type "BaseException") = some true) && (PySem.W.hasDictIn K C &&
  (eqO (PySem.W.findIn K (.ref C) "__class__") (some (some (.builtin "object.__class__"))) && (eqO (PySem.W.specialIn K (.builtin "object.__class__") "__get__") (some (some (.builtin "getset_descriptor.__get__"))) && (decide (PySem.W.takesIn K (.builtin "object.__class__") = some true) && decide (PySem.W.mroIn K C (.type "object") = some true)))))))
theorem excC_of {K : PySem.W.Frag} {C : Addr} (h : excCB K C = true) : ExcC K C := by
  obtain ⟨h1, h⟩ := ba h
  obtain ⟨h2, h⟩ := ba h
  obtain ⟨h3, h⟩ := ba h
  obtain ⟨h4, h⟩ := ba h
  obtain ⟨h5, h⟩ := ba h
  obtain ⟨h6, h⟩ := ba h
  obtain ⟨h7, h8⟩ := ba h
  exact ⟨eqO_ok h1, eqO_ok h2, of_decide_eq_true h3, h4, eqO_ok h5, eqO_ok h6, of_decide_eq_true h7, of_decide_eq_true h8⟩
/-- the own error classes, by number -/
def exOf (K : PySem.W.Frag) (names : List Str) (n : Nat) : Addr := ga K (names.getD n "")
def errB (K : PySem.W.Frag) (names : List Str) (le : Str) : Bool := (List.range names.length).all fun c => excCB K (exOf K names c) && (decide (PySem.W.kitOne K (.ref (exOf K names c)) (.type "ValueError") = some true) && (decide (PySem.W.exmOne K (.ref (exOf K names c)) (.ref (ga K le)) = some true) &&
  ((List.range names.length).all fun i => decide (PySem.W.kitOne K (.ref (exOf K names c)) (.ref (exOf K names i)) = some (decide (c = i))))))
theorem errB_ok {K : PySem.W.Frag} {names : List Str} {le : Str} (h : errB K names le = true) : (∀ c, c < names.length → ExcC K (exOf K names c)) ∧ (∀ c i, c < names.length → i < names.length → PySem.W.kitOne K (.ref (exOf K names c)) (.ref (exOf K names i)) = some (decide (c = i))) ∧
    (∀ c, c < names.length → PySem.W.kitOne K (.ref (exOf K names c)) (.type "ValueError") = some true) ∧ ∀ c, c < names.length → PySem.W.exmOne K (.ref (exOf K names c)) (.ref (ga K le)) = some true := by
  have key : ∀ c, c < names.length → _ := fun c hc => List.all_eq_true.mp h c (List.mem_range.mpr hc)
  refine ⟨fun c hc => excC_of (ba (key c hc)).1, fun c i hc hi => ?_, fun c hc => of_decide_eq_true (ba (ba (key c hc)).2).1, fun c hc => of_decide_eq_true (ba (ba (ba (key c hc)).2).2).1⟩
  have := (ba (ba (ba (key c hc)).2).2).2
  exact of_decide_eq_true (List.all_eq_true.mp this i (List.mem_range.mpr hi))
section
variable {B : Bs} {h : Heap}
theorem excB_of {x : Str} {c : Nat} (X : B.K.In h) (G : h.Ns mainGlobals B.mg) (he : B.exA c = ga B.K x) (h1 : (Fa.glo x).ok B.K = true) (h2 : (Fa.exc x).ok B.K = true) : ExcB B x c := by
  obtain ⟨a1, a2, a3, a4⟩ := exc_ok h2
  exact ⟨he ▸ glo_ok X G h1, he ▸ a1, he ▸ a2, he ▸ a3, he ▸ a4⟩
end
end Dn

set_option Elab.async false
set_option linter.all false
set_option maxRecDepth 100000
set_option maxHeartbeats 2000000
/-! Dn: the law's own def at the head's end. -/
namespace Dn
open PySem PySem.Spec PyProof.Rows L2 LamX

/-- what the tables are: the law's own -/
abbrev lawT (K : PySem.W.Frag) (q : Str) : List (Addr × Str) := [((He.cT K ("law", none)).2, q)]
theorem sqL_rd {K : PySem.W.Frag} {H : Hp} {a : Addr} {xs : List V} (hn : noLst K = true) (h : SqL K H a xs) : Rd H a (.lst xs) := by
  rcases h with h | ⟨o, its, n, lk, hc, _⟩
  · exact h
  · exact (noLst_ok hn lk hc).elim
theorem rels_ints {B : Bs} {F : Hp} : ∀ ns : List Int, Rels B F (ns.map V.int) (ns.map D.int)
  | [] => .nil
  | n :: ns => .cons (.int n) (rels_ints ns)
/-- the script's object alone -/
def onlyAt (H : Hp) (a : Addr) : Hp := fun b => if b = a then H b else none
theorem rd_only {H : Hp} {a : Addr} {u : HO} (h : Rd H a u) : Rd (onlyAt H a) a u := by
  rcases h with h | ⟨o, h⟩
  · exact .inl (by unfold onlyAt; rw [if_pos rfl]; exact h)
  · exact .inr ⟨o, by unfold onlyAt; rw [if_pos rfl]; exact h⟩
section
variable {l : PySem.W.OpenLaw} {w : World} {K : PySem.W.Frag} {mg : Str → Option Value} {h : Heap} {f : Addr} {fd : FuncData} {fa : List He.Fa} {fn : List He.DefD} {ts : List He.Tab} {ex : PySem.W.Frag → Bool} {params : Arguments} {body : List Stmt} {scope : Scope} {N : List Str} {q : Str} {k : Nat} {g : DS} {B0 : Bs}
def spLaw (B : Bs) (PA : Addr) (N : List Str) (g : DS) : Sp := fun vs H Q _ => ∃ (a : Addr) (ns : List Int), vs = [.ref a] ∧ Rd H a (.lst (ns.map V.int)) ∧ H PA = some (.tbl #[]) ∧ (∃ S', g (startX N.length [.d (.lst (ns.map .int))]) [] = .ret (.d (.bl true)) S') ∧ ∀ H', Q (.bl true) H'
theorem law_read {vs : List V} {H : Hp} {Q : VK} {E : XK} (hB : B0.jp = JP.tabs (lawT K q)) (hs : spLaw B0 (He.cT K ("law", none)).2 N g vs H Q E) : denS B0 (wE E) g { nx := fun _ H' => Q .non H', rt := Q } (L2.start N vs) H := by
  obtain ⟨a, ns, rfl, rd, ht, ⟨S', hg⟩, hq⟩ := hs
  have F0 : Rel B0 (onlyAt H a) (.ref a) (.lst (ns.map .int)) := .lst (rd_only rd) (rels_ints ns)
  refine ⟨fun _ => none, [], onlyAt H a, startX N.length [.d (.lst (ns.map .int))], [], ⟨(fun _ _ e => by cases e), fun b o e => ?_, rfl, List.nodup_nil, (fun _ z => nomatch z), (fun _ z => nomatch z), fun b ps e => ?_, (fun _ z => nomatch z), ?_, fun n a c z _ => by simp at z⟩, start_rel (.cons (.d F0) .nil), ?_⟩
  · unfold onlyAt at e
    split at e
    · exact e
    · cases e
  · unfold onlyAt at e
    split at e
    · rename_i eb
      rw [eb] at e
      rcases rd with z | ⟨o, z⟩
      · rw [z] at e; cases e
      · rw [z] at e; cases e
    · cases e
  · rw [hB]
    refine ⟨(fun _ _ z => by cases z), fun p hp => ?_⟩
    have e : p = ((He.cT K ("law", none)).2, q) := by simpa using hp
    rw [e]
    exact ⟨by simp, #[], ht, trivial, fun pos cv z => by cases z⟩
  · rw [hg]
    intro v H' m' F' _ _ r
    cases r with
    | d r => cases r with
      | bl b => exact hq H'
theorem law_at (c : He.SaysX fa fn ts [("law", none)] ex w h K) (hno : noLst K = true) (KX : K.In h) (Fd : FunD K "law" "law" params body scope [] [] f fd) (hf : He.fAd K ("law", none) = f) (S : FnScope N ["script"] scope)
    (hbind : ∀ (s : Shared) (u : Value), BindsTo s fd ⟨[u], []⟩ [("script", u)]) (hB : B0.jp = JP.tabs (lawT K q))
    (hbody : ∀ base : Heap, K.In base → base.Ns mainGlobals mg → TabB base mg (He.cT K ("law", none)).1 (He.cT K ("law", none)).2 → ∀ (A : Around) (outer : List Env) (s : Shared) (H : Hp) (E : XK), Room k (A.deeper (envOfC "law" scope s.heap.objs.size f (.ref (He.cT K ("law", none)).1))) →
      PSs (cxOf (L2N.CX l.prog w) l.prog w K mg base N "law" scope f (.ref (He.cT K ("law", none)).1) A outer s H E) body (denS B0 (wE E) g))
    (hlaw : ∀ ns : List Int, ns.length ≤ 63 → (∀ z ∈ ns, Builtin.Int.intBits z ≤ 1048576) → ∃ S', g (startX N.length [.d (.lst (ns.map .int))]) [] = .ret (.d (.bl true)) S') :
    LawAtS l w K (L2N.CX l.prog w) (k + 1) 63 "script" mg f h := by
  have hm : (("law", none) : He.Defn) ∈ ([("law", none)] : List He.Defn) := List.mem_cons_self
  have one : ∀ {p : Addr × Addr}, p ∈ [He.cT K ("law", none)] → p = He.cT K ("law", none) := fun hp => by simpa using hp
  refine ⟨fd, [He.cT K ("law", none)], spLaw B0 (He.cT K ("law", none)).2 N g, fun p hp => by rw [one hp]; exact c.empty _ hm, fun p hp => by rw [one hp]; exact c.out _ hm, fun p hp => by rw [one hp]; exact PySem.W.codeHd_of_K KX (c.hd _ hm), hbind, fun H a ns hl hb hT hS => ⟨a, ns, rfl, sqL_rd hno hS, hT _ List.mem_cons_self, hlaw ns hl hb, fun _ => rfl⟩, fun base X G TB => ?_⟩
  obtain ⟨oc, od, dV, kV, doc, pm, an, cdv, ct, osl, rfl, lk, hcd, _, _⟩ := Fd.ex
  obtain ⟨cc, rfl⟩ := He.codeIn_ref hcd
  have ec : He.codeOf K ("law", none) = cc := He.codeOf_eq (by rw [hf]; exact lk) rfl
  refine fn_of lk hcd S (fun vs H Q E ⟨a, ns, e, _⟩ => by rw [e]; rfl) fun A outer s H vs Q E hr hs => ?_
  subst ec
  exact ⟨_, hbody base X G (TB _ List.mem_cons_self) A outer s H E hr, law_read hB hs⟩
end
theorem cx_none {P : Program} {w : World} {H : Hp} {s : Shared} {e : Value} {s' : Shared} (z : L2N.CX P w [] H s (fun _ _ _ => False) e s') : False := by
  obtain ⟨_, _, _, _, _, _, _, _, _, _, _, _, z⟩ := z
  exact z
section
variable {B : Bs} (j : JP) {x : Str} {c nf : Nat}
theorem GC.cv {d : D} (h : GC B x d) : GC (setJ B j) x d := let ⟨v, u, h1, h2, h3⟩ := h; ⟨v, u, h1, h2, fun F => (h3 F).cv j⟩
theorem KD.cv {w : World} {kvs : List (List Nat × D)} (h : KD B w x kvs) : KD (setJ B j) w x kvs := let ⟨a, h1, h2⟩ := h; ⟨a, h1, fun s d e => let ⟨v, h3, h4⟩ := h2 s d e; ⟨v, h3, fun F => (h4 F).cv j⟩⟩
theorem ExcB.cv (h : ExcB B x c) : ExcB (setJ B j) x c := ⟨h.g, h.i, h.k, h.s, h.t⟩
theorem ClB.cv (h : ClB B c nf) : ClB (setJ B j) c nf := ⟨h.cl, h.nf, h.nd, h.at_⟩
end
theorem FnB.cvM {P : Program} {w : World} {K : PySem.W.Frag} {mg : Str → Option Value} {base : Heap} {k n : Nat} {x : Str} {ps : List Str} {B : Bs} (hB : ∀ Hk m H, B.jp.J Hk m H) (j : JP) {Fm : List Val → Sto → Out Val} (h : FnB P w K mg base k x ps (spM B n Fm)) : FnB P w K mg base k x ps (spM (setJ B j) n Fm) :=
  let ⟨f, fd, h1, h2⟩ := h.ex
  ⟨f, fd, h1.imp fun _ _ _ _ q => spM_cv hB j q, h2⟩
/-- the def that tells, by the head's facts -/
theorem exmB_of {K : PySem.W.Frag} {names : List Str} {le : Str} (h : errB K names le = true) {B : Bs} (hK : B.K = K) (hx : B.exA = exOf K names) : ∀ c, c < names.length → PySem.W.exmOne B.K (.ref (B.exA c)) (.ref (He.ga K le)) = some true := by
  rw [hK, hx]; exact (errB_ok h).2.2.2
end Dn

set_option Elab.async false
set_option linter.all false
set_option maxRecDepth 100000
set_option maxHeartbeats 2000000
/-! Dn: lambdas in other defs than the law's own. -/
namespace Dn
open PySem PySem.Spec PyProof.Rows L2 LamX

/-- the tables: defs with lambdas, with the lambdas' names -/
abbrev tabT (K : PySem.W.Frag) (l : List (Str × Str)) : List (Addr × Str) := l.map fun x => ((He.cT K (x.1, none)).2, x.2)
section
variable {l : PySem.W.OpenLaw} {w : World} {K : PySem.W.Frag} {mg : Str → Option Value} {h : Heap} {f : Addr} {fd : FuncData} {fa : List He.Fa} {fn : List He.DefD} {ts : List He.Tab} {ex : PySem.W.Frag → Bool} {params : Arguments} {body : List Stmt} {scope : Scope} {N : List Str} {k : Nat} {g : DS} {B0 : Bs} {L : List (Str × Str)}
def spLawN (T : List (Addr × Str)) (N : List Str) (g : DS) : Sp := fun vs H Q _ => ∃ (a : Addr) (ns : List Int), vs = [.ref a] ∧ Rd H a (.lst (ns.map V.int)) ∧ (∀ p ∈ T, H p.1 = some (.tbl #[])) ∧ (∃ S', g (startX N.length [.d (.lst (ns.map .int))]) [] = .ret (.d (.bl true)) S') ∧ ∀ H', Q (.bl true) H'
theorem law_readN {T : List (Addr × Str)} {vs : List V} {H : Hp} {Q : VK} {E : XK} (hB : B0.jp = JP.tabs T) (hs : spLawN T N g vs H Q E) : denS B0 (wE E) g { nx := fun _ H' => Q .non H', rt := Q } (L2.start N vs) H := by
  obtain ⟨a, ns, rfl, rd, ht, ⟨S', hg⟩, hq⟩ := hs
  have F0 : Rel B0 (onlyAt H a) (.ref a) (.lst (ns.map .int)) := .lst (rd_only rd) (rels_ints ns)
  refine ⟨fun _ => none, [], onlyAt H a, startX N.length [.d (.lst (ns.map .int))], [], ⟨(fun _ _ e => by cases e), fun b o e => ?_, rfl, List.nodup_nil, (fun _ z => nomatch z), (fun _ z => nomatch z), fun b ps e => ?_, (fun _ z => nomatch z), ?_, fun n a c z _ => by simp at z⟩, start_rel (.cons (.d F0) .nil), ?_⟩
  · unfold onlyAt at e
    split at e
    · exact e
    · cases e
  · unfold onlyAt at e
    split at e
    · rename_i eb
      rw [eb] at e
      rcases rd with z | ⟨o, z⟩
      · rw [z] at e; cases e
      · rw [z] at e; cases e
    · cases e
  · rw [hB]
    refine ⟨(fun _ _ z => by cases z), fun p hp => ?_⟩
    exact ⟨by simp, #[], ht p hp, trivial, fun pos cv z => by cases z⟩
  · rw [hg]
    intro v H' m' F' _ _ r
    cases r with
    | d r => cases r with
      | bl b => exact hq H'
/-- what stands where: each def's table -/
def TabsB (base : Heap) (mg : Str → Option Value) (K : PySem.W.Frag) (L : List (Str × Str)) : Prop := ∀ x ∈ L, TabB base mg (He.cT K (x.1, none)).1 (He.cT K (x.1, none)).2
theorem law_atN (c : He.SaysX fa fn ts (L.map fun x => (x.1, none)) ex w h K) (hno : noLst K = true) (KX : K.In h) (Fd : FunD K "law" "law" params body scope [] [] f fd) (hf : He.fAd K ("law", none) = f) (S : FnScope N ["script"] scope)
    (hbind : ∀ (s : Shared) (u : Value), BindsTo s fd ⟨[u], []⟩ [("script", u)]) (hB : B0.jp = JP.tabs (tabT K L))
    (hbody : ∀ base : Heap, K.In base → base.Ns mainGlobals mg → TabsB base mg K L → ∀ (cdv : Value), cdv = .ref (He.codeOf K ("law", none)) → ∀ (A : Around) (outer : List Env) (s : Shared) (H : Hp) (E : XK), Room k (A.deeper (envOfC "law" scope s.heap.objs.size f cdv)) →
      PSs (cxOf (L2N.CX l.prog w) l.prog w K mg base N "law" scope f cdv A outer s H E) body (denS B0 (wE E) g))
    (hlaw : ∀ ns : List Int, ns.length ≤ 63 → (∀ z ∈ ns, Builtin.Int.intBits z ≤ 1048576) → ∃ S', g (startX N.length [.d (.lst (ns.map .int))]) [] = .ret (.d (.bl true)) S') :
    LawAtS l w K (L2N.CX l.prog w) (k + 1) 63 "script" mg f h := by
  have mem : ∀ {x : Str × Str}, x ∈ L → ((x.1, none) : He.Defn) ∈ (L.map fun x => ((x.1, none) : He.Defn)) := fun hx => List.mem_map.mpr ⟨_, hx, rfl⟩
  refine ⟨fd, L.map fun x => He.cT K (x.1, none), spLawN (tabT K L) N g, fun p hp => ?_, fun p hp => ?_, fun p hp => ?_, hbind, fun H a ns hl hb hT hS => ⟨a, ns, rfl, sqL_rd hno hS, fun p hp => ?_, hlaw ns hl hb, fun _ => rfl⟩, fun base X G TB => ?_⟩
  · obtain ⟨x, hx, rfl⟩ := List.mem_map.mp hp
    exact c.empty _ (mem hx)
  · obtain ⟨x, hx, rfl⟩ := List.mem_map.mp hp
    exact c.out _ (mem hx)
  · obtain ⟨x, hx, rfl⟩ := List.mem_map.mp hp
    exact PySem.W.codeHd_of_K KX (c.hd _ (mem hx))
  · obtain ⟨x, hx, rfl⟩ := List.mem_map.mp hp
    exact hT (He.cT K (x.1, none)) (List.mem_map.mpr ⟨x, hx, rfl⟩)
  obtain ⟨oc, od, dV, kV, doc, pm, an, cdv, ct, osl, rfl, lk, hcd, _, _⟩ := Fd.ex
  obtain ⟨cc, rfl⟩ := He.codeIn_ref hcd
  have ec : He.codeOf K ("law", none) = cc := He.codeOf_eq (by rw [hf]; exact lk) rfl
  refine fn_of lk hcd S (fun vs H Q E ⟨a, ns, e, _⟩ => by rw [e]; rfl) fun A outer s H vs Q E hr hs => ?_
  exact ⟨_, hbody base X G (fun x hx => TB _ (List.mem_map.mpr ⟨x, hx, rfl⟩)) _ (by rw [ec]) A outer s H E hr, law_readN hB hs⟩
/-- a def with lambdas: its body at its very code object -/
theorem fd_methC {P : Program} {base : Heap} {x : Str} {ps : List Str} {B : Bs} (F : FunD K x x params body scope [] [] f fd) (hf : He.fAd K (x, none) = f) (S : FnScope N ps scope)
    (hbody : ∀ (A : Around) (outer : List Env) (s : Shared) (H : Hp) (E : XK), Room k (A.deeper (envOfC x scope s.heap.objs.size f (.ref (He.codeOf K (x, none))))) → PSs (cxOf (L2N.CX P w) P w K mg base N x scope f (.ref (He.codeOf K (x, none))) A outer s H E) body (denS B (wE E) g)) :
    FnOk P w K mg base (L2N.CX P w) (k + 1) f fd ps (spM B ps.length (methOf N.length g)) := by
  obtain ⟨oc, od, dV, kV, doc, pm, an, cdv, ct, osl, rfl, lk, hcd, _, _⟩ := F.ex
  obtain ⟨cc, rfl⟩ := He.codeIn_ref hcd
  have ec : He.codeOf K (x, none) = cc := He.codeOf_eq (by rw [hf]; exact lk) rfl
  refine fn_of lk hcd S (fun vs H Q E ⟨_, _, _, _, _, _, _, h, _⟩ => h) fun A outer s H vs Q E hr hs => ?_
  subst ec
  exact ⟨_, hbody A outer s H E hr, meth_read hs⟩
end
end Dn

set_option Elab.async false
set_option linter.all false
set_option maxRecDepth 100000
set_option maxHeartbeats 2000000
/-! Dn: text.replace; what it asks: a token is out. -/
namespace Dn
open PySem PySem.Spec L2 PyProof.Rows PySem.StrLaws

theorem thnT {α : Type} {t : Sem α} {Q Q' : α → Shared → Prop} {M : Model} {A : Around} {E : Value → Shared → Prop} {s : Shared} (h0 : 1 ≤ s.toks) (h : wpAny M A t Q E s) (k : ∀ a s1, 1 ≤ s1.toks → Q a s1 → Q' a s1) : wpAny M A t Q' E s :=
  wpAny_mono (PySem.wpAny_toks_of h0 h) (fun v s1 q => k v s1 q.1 q.2) fun _ _ q => q.2
theorem thnTF {α : Type} {t : Sem α} {Q Q' : α → Shared → Prop} {M : Model} {A : Around} {E : Value → Shared → Prop} {s : Shared} (h0 : 1 ≤ s.toks) (h : wpAny M A t Q (fun _ _ => False) s) (k : ∀ a s1, 1 ≤ s1.toks → Q a s1 → Q' a s1) : wpAny M A t Q' E s :=
  wpAny_mono (PySem.wpAny_toks_of h0 h) (fun v s1 q => k v s1 q.1 q.2) fun _ _ q => False.elim q.2
def iTupT (K : PySem.W.Frag) (te : TE) : TI := fun σ H R => te σ H fun x H1 => ∃ a, x = .ref a ∧ (∃ xs, SqT K H1 a xs) ∧ R (Itt K a) H1
section
variable {X : Cx} {elt tg iter : Expr} {ifs : List Expr} {scope : Scope} {own : List (Str × Nat)} {pos : Pos} {g : TG} {tt : TT} {te te0 : TE}
/-- [e for x in t], t a tuple, one token out -/
theorem pet_lcK (hc : X.calm = true) (hN : X.N.Nodup) (hi : PE X iter te0) (ok : BlkOk X.N X.env.scope scope own)
    (hg : ∀ (s : Shared) (H : Hp) (C : Addr) (cl : List (Str × Addr)) (fp : List Addr), PG (X.blk s H scope (compEnvC scope cl C X.env) fp) tg g) (ht : ∀ (s : Shared) (H : Hp) (C : Addr) (cl : List (Str × Addr)) (fp : List Addr), PTs (X.blk s H scope (compEnvC scope cl C X.env) fp) ifs tt)
    (he : ∀ (s : Shared) (H : Hp) (C : Addr) (cl : List (Str × Addr)) (fp : List Addr), PET (X.blk s H scope (compEnvC scope cl C X.env) fp) elt te) (hs : ∀ x, foldedSetIterable iter X.env x = pure x := by intro _; rfl) :
    PET X (.ListComp elt [⟨tg, iter, ifs, 0⟩] scope pos) (tLc (iTupT X.K te0) g tt te (own.map (·.2))) := by
  intro pins s0 σ H Q t0 I0 h
  rw [eval_ListComp]
  have hf : ∀ y ∈ scope.names, y.2 = .free → ∃ c, X.env.cells.lookup y.1 = some c := fun y hy e => (ok.free y hy e).elim (fun k => I0.ok.has _ (.inl k)) fun k => I0.ok.has _ (.inr k)
  refine wpAny_comprehension_free (use := none) rfl hs (closure_ok hf) ok.kind (fun y hy e => by rw [ok.uniq y hy, e]) (thnT t0 (hi.run pins s0 σ H _ I0 h) fun xv s1 t1 ⟨x, H2, J1, r1, a, ex, ⟨xs0, hq⟩, q⟩ => ?_)
  subst ex
  obtain rfl : xv = Value.ref a := r1
  obtain ⟨its0, rv0, p0, hz0⟩ := J1.tuple hq
  have hx : wpAny (model X.prog X.w) X.A (pyIter (.ref a)) (fun itv s2 => ∃ it, itv = .ref it ∧ Inv X pins σ H2 s2 ∧ s2.heap.IsTupleIter it a 0 ∧ FpOk X pins H2 it ∧ it < s2.heap.objs.size) X.xe s1 :=
    wpAny_pyIter_tuple (show s1.heap.IsTuple a its0.toArray from p0) ⟨s1.heap.objs.size, rfl, J1.kept (t' := s1.toks) fun b o e => Heap.get?_push_of_some _ e, ⟨_, Heap.get?_push_size _ rfl, rfl, rfl⟩, J1.fpOk (Nat.le_refl _) (J1.hok.fresh (Nat.le_refl _)), by rw [Heap.size_push]; exact Nat.lt_succ_self _⟩
  refine thnT t1 hx fun itv s2 t2 ⟨it, ei, I2, st2, fit, itlt⟩ => ?_
  subst ei
  refine wpAny_newObj_type (newEnv_comp ?_) (by show 0 ≤ sizeLine; decide)
  generalize hD : s2.heap.objs.size = L
  have nL : H2 L = none := I2.hok.fresh (Nat.le_of_eq hD)
  obtain ⟨Wv, ⟨k0, w0⟩, turn⟩ := q L nL
  generalize hs3 : ({ s2 with heap := s2.heap.push { cls := .type "list", data := .seq ([] : List Value).toArray } } : Shared) = s3
  have e3 : s3.heap = s2.heap.push { cls := .type "list", data := .seq ([] : List Value).toArray } := by rw [← hs3]
  have t3 : 1 ≤ s3.toks := by rw [← hs3]; exact t2
  have I3 : Inv X pins σ (upd H2 L (.lst [])) s3 := by
    rw [← hs3]
    exact I2.laid (t' := s2.toks) (fun b o e => Heap.get?_push_of_some _ e) (Nat.le_of_eq hD) ⟨Nat.zero_le _, [], 0, .nil, by rw [← hD]; exact Heap.get?_push_size _ rfl⟩
  have fit3 : ∀ b ∈ [it], FpOk X pins (upd H2 L (.lst [])) b ∧ b < s3.heap.objs.size := fun b hb => by
    have eb : b = it := by simpa using hb
    subst eb
    refine ⟨⟨?_, fit.2⟩, by rw [e3, Heap.size_push]; exact Nat.lt_succ_of_lt itlt⟩
    rw [upd_ne (by rw [← hD]; exact Nat.ne_of_lt itlt)]; exact fit.1
  have it_at : ∀ {h h' : Heap} {i : Nat}, h.IsTupleIter it a i → (∀ o, h.get? it = some o → h'.get? it = some o) → h'.IsTupleIter it a i := fun ⟨o, e, c, d⟩ k => ⟨o, k o e, c, d⟩
  have st3 : s3.heap.IsTupleIter it a 0 := it_at st2 fun o e => by rw [e3]; exact Heap.get?_push_of_some _ e
  have I4 := block_start I3 ok hN fit3
  generalize hcl : cellsFrom (s3.heap.objs.size + 1) scope.names (cloFrom X.env.cells scope.names []) = cl at I4
  have pg := hg s3 (upd H2 L (.lst [])) s3.heap.objs.size cl [it]; have pt := ht s3 (upd H2 L (.lst [])) s3.heap.objs.size cl [it]; have pe := he s3 (upd H2 L (.lst [])) s3.heap.objs.size cl [it]
  show codeAny _ _ (.compStart (.ListComp elt [⟨tg, iter, ifs, 0⟩] scope pos) 0 (.ref it) (.ref L) (compEnvC scope cl s3.heap.objs.size X.env)) (compPost (model X.prog X.w) X.A X.xe none (EP X pins σ Q) (.ref L) s3.heap.objs.size) { s3 with heap := pushCells (s3.heap.push { cls := .type "dict", data := .dict #[] }) scope.names }
  generalize hce : compEnvC scope cl s3.heap.objs.size X.env = ce at I4 pg pt pe ⊢
  have cL : ce.locals = s3.heap.objs.size := by subst hce; rfl
  have n3 : (upd H2 L (.lst [])) it = none := (fit3 it (by simp)).1.1
  generalize hH3 : upd H2 L (.lst []) = H3 at I3 I4 pg pt pe w0 n3 fit3
  generalize hs4 : ({ s3 with heap := pushCells (s3.heap.push { cls := .type "dict", data := .dict #[] }) scope.names } : Shared) = s4 at I4 ⊢
  have t4 : 1 ≤ s4.toks := by rw [← hs4]; exact t3
  have st4 : s4.heap.IsTupleIter it a 0 := it_at st3 fun o e => by rw [← hs4]; exact pushCells_keeps _ _ _ _ (Heap.get?_push_of_some _ e)
  have stat : ∀ {σ' : L2.St} {H' : Hp} {s' : Shared}, Inv (X.blk s3 H3 scope ce [it]) [] σ' H' s' → H' it = none → FpOk (X.blk s3 H3 scope ce [it]) [] H' it := fun {σ' H' s'} I' hn =>
    have hm : it ∈ [it] := by simp
    ⟨hn, (I'.ok.exf it hm).1, I'.ok.exfs it hm, .inl hm, fun x c e => (I'.ok.exf it hm).2 x c e, fun p hp => absurd (show p ∈ ([] : List (Addr × Obj)) ++ [] from hp) (by simp)⟩
  have loop : codeAny (model X.prog X.w) X.A (.compLoop (.ListComp elt [⟨tg, iter, ifs, 0⟩] scope pos) 0 (.ref it) (.ref L) ce) (compPost (model X.prog X.w) X.A X.xe none (EP X pins σ Q) (.ref L) s3.heap.objs.size) s4 := by
    refine compLoop_any (fun n s' => 1 ≤ s'.toks ∧ ∃ i H', Inv (X.blk s3 H3 scope ce [it]) [] (wipe σ (own.map (·.2))) H' s' ∧ s'.heap.IsTupleIter it a i ∧ H' it = none ∧ Wv i n H') ?_ k0 ⟨t4, 0, H3, I4, st4, n3, w0⟩
    rintro n s5 ⟨t5, i, H5, I5, st5, n5, w5⟩
    obtain ⟨f0, f1, f2, f3, f4, f5⟩ := stat I5 n5
    rcases turn i n H5 w5 with ⟨⟨ys, hy, hle⟩, qq⟩ | ⟨⟨ys, y, hy, hyi⟩, Nx, hNx, step⟩
    · obtain ⟨its5, rv5, p5, hz5⟩ := I5.tuple hy
      have ln5 := rv5.length
      refine wpAny_pyNext_tuple_end (I3.ok.hd hc) st5 (show s5.heap.IsTuple a its5.toArray from p5) (by simp; omega) fun h' eb => ?_
      have I6 := I5.turned (t' := s5.toks) (fun b o hb e => eb b o hb e) f0 f1 f3 f4 f5
      have I7 := I3.call' (ch := [it]) I6.os I6.base I6.hok I6.bare fun b hb => ⟨(fit3 b hb).1.2.2.2.1, (fit3 b hb).1.2.1, (fit3 b hb).1.2.2.2.2.1, (fit3 b hb).1.2.2.2.2.2⟩
      have nC : H5 s3.heap.objs.size = none := by rw [← cL]; exact I6.free
      obtain ⟨mm, hns, _⟩ := I6.loc
      have hns : Heap.Ns h' ce.locals mm := hns
      rw [cL] at hns
      obtain ⟨c0, c1, c2, c3, c4, c5⟩ := I3.fpOk (Nat.le_refl _) nC
      exact ⟨mm, hns, fun h'' sb => ⟨.ref L, H5, I7.turned (t' := s5.toks) (fun b o hb e => (sb.2 b hb).trans e) c0 c1 c3 c4 c5, rfl, qq⟩⟩
    · obtain ⟨its5, rv5, p5, hz5⟩ := I5.tuple hy
      obtain ⟨u, hu, ru⟩ := rv5.get hyi
      refine wpAny_pyNext_tuple_item st5 (show s5.heap.IsTuple a its5.toArray from p5) (x := u) (by simpa using hu) fun h' st6 sb => ?_
      have I6 : Inv (X.blk s3 H3 scope ce [it]) [] (wipe σ (own.map (·.2))) H5 { s5 with heap := h' } := I5.turned (t' := s5.toks) (fun b o hb e => (sb.2 b hb).trans e) f0 f1 f3 f4 f5
      obtain ⟨oi, gi, ci, di⟩ := id st6
      refine go_of (s := { s5 with heap := h' }) gi ci di (by decide) ?_
      have I6' := I6.pinned (fp := [it]) (fun b hb => by
        have eb : b = it := by simpa using hb
        rw [eb]; exact stat I6 n5) (fun b hb => by
        have eb : b = it := by simpa using hb
        rw [eb]; exact ⟨oi, gi, fun v z => by rw [di] at z; cases z⟩)
      refine thnTF t5 (pg.run _ { s5 with heap := h' } _ H5 y u _ I6' ru (step y H5 ⟨rfl, fun zs hzs => by rw [I5.tuple_inj hzs hy]; exact hyi⟩)) fun _ s8 t8 ⟨σ8, H8, I8, hw8, q8⟩ => ?_
      refine thnTF t8 (pt.run _ s8 σ8 H8 _ I8 q8) fun b s9 t9 ⟨H9, I9, q9⟩ => ?_
      have fin : ∀ {s' : Shared} {H' : Hp}, 1 ≤ s'.toks → Inv (X.blk s3 H3 scope ce [it]) ([] ++ pinsAt [it] h') σ8 H' s' → Nx H' → ∃ m, m < n ∧ (1 ≤ s'.toks ∧ ∃ i H', Inv (X.blk s3 H3 scope ce [it]) [] (wipe σ (own.map (·.2))) H' s' ∧ s'.heap.IsTupleIter it a i ∧ H' it = none ∧ Wv i m H') := fun {s' H'} t' I' nx => by
        obtain ⟨m', hm, w'⟩ := hNx H' nx
        have z := I'.pin (it, oi) (List.mem_append_right _ (List.mem_append_right _ (mem_pinsAt (by simp) gi)))
        refine ⟨m', hm, t', i + 1, H', (I'.unpinned (pins := [])).weak (by rw [← hw8, wipe_length]) (fun j v e => by rw [← hw8] at e; exact (wipe_some e).1), ⟨oi, z.1, ci, di⟩, z.2.1, w'⟩
      cases b with
      | false => simp only [Bool.false_eq_true, if_false] at q9 ⊢; exact fin t9 I9 q9
      | true =>
        simp only [if_true] at q9 ⊢
        refine thnTF t9 (pe _ s9 σ8 H9 _ t9 I9 q9) fun z s10 t10 ⟨yv, H10, I10, r10, acc, hD10, hz10, nx⟩ => thnT t10 (app_ok (X := X.blk s3 H3 scope ce [it]) (Q := fun _ s11 => Inv (X.blk s3 H3 scope ce [it]) ([] ++ pinsAt [it] h') σ8 (upd H10 L (.lst (acc ++ [yv]))) s11) I10 hD10 hz10 r10 fun s11 I11 => I11) fun _ s11 t11 I11 => fin t11 I11 nx
  exact codeAny_compStart_list loop (wpAny_pyIter_tupleiter st4 loop)
end

section
variable {X : Cx} {B : Bs} {W : WX}
theorem PET_weak {e : Expr} {t t' : TE} (h : PET X e t) (w : ∀ σ H Q, t' σ H Q → t σ H Q) : PET X e t' := fun pins s σ H Q h0 I q => h pins s σ H Q h0 I (w σ H Q q)
theorem PSsT_weak {e : List Stmt} {t t' : TS} (h : PSsT X e t) (w : ∀ D σ H, t' D σ H → t D σ H) : PSsT X e t' := fun pins s σ H D h0 I q => h pins s σ H D h0 I (w D σ H q)
/-- a test that gives a token out -/
def PTT (X : Cx) (c : Expr) (t : TT) : Prop := ∀ (pins : List (Addr × Obj)) (s : Shared) (σ : L2.St) (H : Hp) (Q : Bool → Hp → Prop), Inv X pins σ H s → t σ H Q → wpAny (model X.prog X.w) X.A (isTrue c X.env (eval c X.env)) (fun b s' => 1 ≤ s'.toks ∧ TP X pins σ Q b s') X.xe s
theorem ptt_int {op : CmpOp} {r : R2} {a : Expr} {ta : TE} {n : Int} {j : Nat} {cp pos : Pos} (ho : OpR X (compareOp op) r) (ha : PE X a ta) (hm : behindInMarks op (.Constant (.int n) j cp) = false := by rfl) : PTT X (.Compare a [op] [.Constant (.int n) j cp] pos) (tTest (tOp r ta (tC (.int n)))) := by
  intro pins s σ H Q I h
  refine wpAny_isTrue_Compare1 (thn (ha.run pins s σ H _ I h) fun v s1 ⟨x, H1, I1, r1, q1⟩ => wpAny_Constant_int ?_) hm
  refine thnT (s := { s1 with toks := s1.toks + 1 }) (by show 1 ≤ s1.toks + 1; omega) (ho pins { s1 with toks := s1.toks + 1 } σ H1 x (.int n) v _ _ (I1.tok _) r1 ⟨_, rfl⟩ q1) fun c s3 t3 ⟨z, H3, I3, r3, k, e, q3⟩ => ?_
  subst e
  cases r3
  exact wpAny_truthy_bool ⟨t3, H3, I3, q3⟩
theorem dtt_int {op : CmpOp} {r : R2} {a : Expr} {f : DE} {n : Int} {j : Nat} {cp pos : Pos} {k : Val → Val → Sto → Out Val} (ho : OpR X (compareOp op) r) (ha : PE X a (denE B W f)) (hp : Prim2 B W r k) (hm : behindInMarks op (.Constant (.int n) j cp) = false := by rfl) :
    PTT X (.Compare a [op] [.Constant (.int n) j cp] pos) (denT B W (tB (d2 f (dC (.int n)) k))) := fun pins s σ H Q I h =>
  ptt_int ho ha hm pins s σ H Q I (den_mono (w_d2 hp (w_tB h)) fun x H1 ⟨Hk, m, F, sl, S, R, R2, q⟩ => q (.int n) H1 m F R (Grow.refl _ _ _) (.d (.int n)))
theorem pss_ifT {c : Expr} {a b rest : List Stmt} {tc : TT} {t u v : TS} {pos : Pos} (hc : PTT X c tc) (ha : PSs X a t) (hb : PSs X b u) (hr : PSsT X rest v) : PSs X (.If c a b pos :: rest) (tSeq (tIfS tc t u) v) := by
  refine ⟨fun pins s σ H D I h => wpAny_execs_cons ?_⟩
  have key : wpAny (model X.prog X.w) X.A (exec (.If c a b pos) X.env) (fun f s' => 1 ≤ s'.toks ∧ SP X pins { D with nx := v D } f s') X.xe s := by
    refine wpAny_If (thn (hc pins s σ H _ I h) fun d s1 ⟨t1, H1, I1, q1⟩ => ?_)
    cases d with
    | true => exact thnT t1 (ha.run pins s1 σ H1 _ I1 q1) fun _ _ t2 q2 => ⟨t2, q2⟩
    | false => exact thnT t1 (hb.run pins s1 σ H1 _ I1 q1) fun _ _ t2 q2 => ⟨t2, q2⟩
  refine thn key fun f s1 ⟨t1, q⟩ => ?_
  cases f with
  | next =>
    obtain ⟨σ', H', I', q⟩ := q
    exact hr pins s1 σ' H' D t1 I' q
  | ret v => exact q
  | brk => exact q
  | cont => exact q
theorem w_seq {f g : DS} {D : Ends} {σ : L2.St} {H : Hp} (h : denS B W (sSeq f g) D σ H) : tSeq (denS B W f) (denS B W g) D σ H := by
  obtain ⟨Hk, m, F, sl, S, R, R2, q⟩ := h
  refine ⟨Hk, m, F, sl, S, R, R2, ?_⟩
  unfold sSeq at q
  cases e : f sl S with
  | nx sl' S' => rw [e] at q; exact fun σ' H' m' F' R' R2' G => ⟨Hk, m', F', sl', S', R', R2', postS_grow G q⟩
  | ret x S' => rw [e] at q; exact q
  | bk sl' S' => rw [e] at q; exact q
  | ct sl' S' => rw [e] at q; exact q
  | exc c sl' S' => rw [e] at q; exact q
  | bad => rw [e] at q; exact q
theorem w_if {t : DT} {f g : DS} {D : Ends} {σ : L2.St} {H : Hp} (h : denS B W (sIf t f g) D σ H) : tIfS (denT B W t) (denS B W f) (denS B W g) D σ H := by
  obtain ⟨Hk, m, F, sl, S, R, R2, q⟩ := h
  refine den_mono (denS_step (k := fun c S1 => if c = true then f sl S1 else g sl S1) R R2 q) fun v H1 ⟨m1, F1, S1, x, R1, R21, G, r1, p⟩ => ?_
  cases r1
  cases v with
  | true => exact ⟨Hk, m1, F1, sl, S1, R1, R21, p⟩
  | false => exact ⟨Hk, m1, F1, sl, S1, R1, R21, p⟩
/-- if c: a else: b; behind it a token is out -/
theorem dss_ifT {c : Expr} {a b rest : List Stmt} {t : DT} {f g h : DS} {pos : Pos} (hc : PTT X c (denT B W t)) (ha : PSs X a (denS B W f)) (hb : PSs X b (denS B W g)) (hr : PSsT X rest (denS B W h)) : PSs X (.If c a b pos :: rest) (denS B W (sSeq (sIf t f g) h)) :=
  PSs_weak (pss_ifT hc ha hb hr) fun _ _ _ q => w_if (w_seq q)
theorem dst_cons {st : Stmt} {rest : List Stmt} {f g : DS} (h1 : PST X st (denS B W f)) (h2 : PSsT X rest (denS B W g)) : PSsT X (st :: rest) (denS B W (sSeq f g)) := PSsT_weak (psst_cons h1 h2) fun _ _ _ q => w_seq q
theorem dst_of {st : List Stmt} {f : DS} (h : PSs X st (denS B W f)) : PSsT X st (denS B W f) := PSsT.of h
theorem pst_set {i : Nat} {x : Str} {e : Expr} {te : TE} {pos pos' : Pos} (hN : X.N.Nodup) (hi : X.N[i]? = some x) (hx : Loc X.env.scope x) (he : PET X e te) (hs : swapsWith e (some (.Name x pos')) pos.line X.env = pure false) (hf : X.fn x = true ∨ X.env.scope.names.lookup x = some .local) :
    PST X (.Assign [.Name x pos'] e pos) (tAsg te (gName i)) := fun pins s σ H D h0 I h =>
  wpAny_Assign_Name (thn (he pins s σ H _ h0 I h) fun v s1 ⟨y, H1, I1, r1, q1⟩ => store_ok I1 hN hi hx r1 (fun s2 I2 => ⟨_, H1, I2, q1⟩) hf) hs
theorem dst_set (i : Nat) {x : Str} {e : Expr} {f : DE} {pos pos' : Pos} (hN : X.N.Nodup) (he : PET X e (denE B W f)) (hi : X.N[i]? = some x := by rfl) (hx : Loc X.env.scope x := by first | exact Or.inl rfl | exact Or.inr rfl) (hs : swapsWith e (some (.Name x pos')) pos.line X.env = pure false := by rfl)
    (hf : X.fn x = true ∨ X.env.scope.names.lookup x = some .local := by first | exact .inl rfl | exact .inr rfl) : PST X (.Assign [.Name x pos'] e pos) (denS B W (sSet i f)) := fun pins s σ H D h0 I q => pst_set hN hi hx he hs hf pins s σ H D h0 I (w_set q)
theorem pat_one {e : Expr} {te : TE} (ha : PET X e te) (hs : starEach [e] X.env = (false, eval e X.env) :: starEach [] X.env := by rfl) : PAT X [e] (tCons te tNil) := pat_cons ha pat_nil hs
theorem pet_callTy {T : String} {x : Str} {e : Expr} {r : List V → Hp → VK → Prop} {t : TA} {p pos : Pos} (hc : CallR X (.type T) r) (hg : Gl X x) (hm : X.mg x = none) (hv : bootBuiltins x = some (.type T)) (ha : PAT X [e] t) (hn : x ≠ "__name__" := by decide) (hdb : (x == ("__debug__" : Str)) = false := by decide)
    (he : starEach [e] X.env = (false, eval e X.env) :: starEach [] X.env := by rfl) (hpl : (backTo pos (starEach [] X.env)).any (·.1) = false := by rfl) : PET X (.Call (.Name x p) [e] [] pos) (tCB r t) := fun pins s σ H Q h0 I h =>
  wpAny_Call_Name_kw (ld_blt I hg hm hv (PyProof.Rows.callWith_type1 (thn (ha pos pins s σ H _ h0 I h) fun us s1 ⟨vs, H1, I1, r1, q1⟩ => hc pins s1 σ H1 vs us Q I1 r1 q1) he hpl) hn hdb)
theorem w_one {f : DE} {σ : L2.St} {H : Hp} {Q : List V → Hp → Prop} (h : denA B W (aCons f aNil) σ H Q) : tCons (denE B W f) tNil σ H Q := by
  obtain ⟨Hk, m, F, sl, S, R, R2, q⟩ := h
  refine den_mono (den_step (k := fun x S1 => (aNil sl S1).bind fun xs S2 => .ok (x :: xs) S2) R R2 q) fun v H1 ⟨m1, F1, S1, x, R1, R21, G, r1, p⟩ => ?_
  exact p [v] H1 m1 F1 R1 (Grow.refl _ _ _) (.cons r1 .nil)
/-- tuple(e), one token out -/
theorem det_tuple {e : Expr} {f : DE} {k : List Val → Sto → Out Val} {r : List V → Hp → VK → Prop} {p pos : Pos} (hc : CallR X (.type "tuple") r) (hp : PrimA B W r k) (hg : Gl X "tuple") (hm : X.mg "tuple" = none) (he : PET X e (denE B W f))
    (hs : starEach [e] X.env = (false, eval e X.env) :: starEach [] X.env := by rfl) (hpl : (backTo pos (starEach [] X.env)).any (·.1) = false := by rfl) : PET X (.Call (.Name "tuple" p) [e] [] pos) (denE B W (dA (aCons f aNil) k)) :=
  PET_weak (pet_callTy hc hg hm (by decide +kernel) (pat_one he hs) (by decide) (by decide) hs hpl) fun _ _ _ q => w_one (w_dA hp q)
/-! ### tuples walked -/
def iTupD (f : DE) : DI := fun sl S => (f sl S).bind fun x S1 => match tupItems S1 x with
  | some _ => .ok (fun S' => tupItems S' x) S1
  | none => .bad
theorem w_tup {f : DE} (hB : BX B X) {σ : L2.St} {H : Hp} {R : It → Hp → Prop} (h : denI B W (iTupD f) σ H R) : iTupT X.K (denE B W f) σ H R := by
  obtain ⟨Hk, m, F, sl, S, R1, R2, q⟩ := h
  refine ⟨Hk, m, F, sl, S, R1, R2, ?_⟩
  unfold iTupD at q
  cases e0 : f sl S with
  | exc c S' => rw [e0] at q; exact q
  | bad => rw [e0] at q; exact q
  | ok x S1 =>
    rw [e0, Out.bind_ok] at q
    intro v H' m' F' R3 G r
    cases e1 : tupItems S1 x with
    | none => rw [e1] at q; exact False.elim q
    | some xs =>
      rw [e1] at q
      obtain ⟨a, vs, rfl, h1, h2⟩ := tup_items R3 r e1
      exact ⟨a, rfl, ⟨vs, hB.K ▸ h1⟩, q _ m' F' H' R3 G (ok_tup hB r)⟩
theorem det_lcK {elt tg iter : Expr} {ifs : List Expr} {scope : Scope} {pos : Pos} {f : DE} {g : DF} {t : DT} {e : DE} {is : List Nat} {fin : List Val → Sto → Out Val} (fo : FinOk B W fin) (own : List (Str × Nat)) (hB : BX B X) (hc : X.calm = true) (hN : X.N.Nodup) (hi : PE X iter (denE B W f)) (ok : BlkOk X.N X.env.scope scope own)
    (hg : ∀ (s : Shared) (H : Hp) (C : Addr) (cl : List (Str × Addr)) (fp : List Addr), PG (X.blk s H scope (compEnvC scope cl C X.env) fp) tg (denF B is g)) (ht : ∀ (s : Shared) (H : Hp) (C : Addr) (cl : List (Str × Addr)) (fp : List Addr), PTs (X.blk s H scope (compEnvC scope cl C X.env) fp) ifs (denT B WF t))
    (he : ∀ (s : Shared) (H : Hp) (C : Addr) (cl : List (Str × Addr)) (fp : List Addr), PET (X.blk s H scope (compEnvC scope cl C X.env) fp) elt (denE B WF e)) (his : ∀ j ∈ is, j ∈ own.map (·.2) := by decide) (hs : ∀ x, foldedSetIterable iter X.env x = pure x := by intro _; rfl) :
    PET X (.ListComp elt [⟨tg, iter, ifs, 0⟩] scope pos) (denE B W (gLc fin (iTupD f) g t e (own.map (·.2)))) :=
  PET_weak (pet_lcK hc hN hi ok hg ht he hs) fun _ _ _ q => tLc_iter (w_tup hB) (w_lc fo his q)
/-! ### one sign for another -/
def repC (y z : Nat) (s : List Nat) : List Nat := s.map fun c => if c = y then z else c
theorem replL_one (y z : Nat) : ∀ s : List Nat, replL [y] [z] s = repC y z s
  | [] => replL_nil
  | c :: s => by
    by_cases h : c = y
    · rw [replL_hit (by simp) (by simp [h])]
      simp [repC, h]
      exact replL_one y z s
    · rw [replL_miss (by simp [h])]
      simp [repC, h]
      exact replL_one y z s
theorem rep_tl (y z : Nat) (s : List Nat) : Txt.replace ⟨s.toArray⟩ ⟨[y].toArray⟩ ⟨[z].toArray⟩ = (⟨(repC y z s).toArray⟩ : Str) := by
  apply TL.ext_tl
  show (Txt.replace ⟨s.toArray⟩ ⟨[y].toArray⟩ ⟨[z].toArray⟩).cps.toList = _
  rw [replace_list (by show 1 ≤ 1; decide)]
  show replL [y] [z] s = (repC y z s).toArray.toList
  rw [replL_one]
def kRep (y z : Nat) (x : Val) (S : Sto) : Out Val := match x with
  | .d (.str s) => if s.length ≤ 1000000 then .ok (.d (.str (repC y z s))) S else .bad
  | _ => .bad
theorem p_rep1 (y z : Nat) : Prim1 B W (fun v H Q => ∃ x, v = .str x ∧ x.length + (x.length + 1) * (⟨[z].toArray⟩ : Str).length ≤ 16777216 ∧ Q (.str (Txt.replace x ⟨[y].toArray⟩ ⟨[z].toArray⟩)) H) (kRep y z) := by
  intro Hk σ m F S H v x Q R rx p
  cases rx with
  | r _ => exact False.elim p
  | d rx =>
    cases rx with
    | str s =>
      simp only [kRep] at p
      split at p
      · rename_i hl
        refine ⟨_, rfl, ?_, ?_⟩
        · rw [str_len]; show s.length + (s.length + 1) * 1 ≤ 16777216; omega
        · rw [rep_tl]; exact p _ H m F R (Grow.refl _ _ _) (.d (.str _))
      · exact False.elim p
    | _ => exact False.elim p
/-- e.replace(y, z), two written signs, one token out -/
theorem det_rep {o : Expr} {f : DE} {y z : Nat} {j k : Nat} {c0 c1 apos pos : Pos} (ho : PE X o (denE B W f)) (hyz : ((⟨[y].toArray⟩ : Str) == ⟨[z].toArray⟩) = false := by decide)
    (hst : starEach [.Constant (.str ⟨[y].toArray⟩) j c0, .Constant (.str ⟨[z].toArray⟩) k c1] X.env = [(false, eval (.Constant (.str ⟨[y].toArray⟩) j c0) X.env), (false, eval (.Constant (.str ⟨[z].toArray⟩) k c1) X.env)] := by rfl)
    (hbase : attributeBase o "replace" X.env (eval o X.env) = eval o X.env := by rfl) (hline : (apos.endLine == pos.line) = true := by rfl) :
    PET X (.Call (.Attribute o "replace" apos) [.Constant (.str ⟨[y].toArray⟩) j c0, .Constant (.str ⟨[z].toArray⟩) k c1] [] pos) (denE B W (d1 f (kRep y z))) :=
  PET_weak (CwR.pet_replC ho hyz hst hbase hline) fun _ _ _ q => w_d1 (p_rep1 y z) q
/-- e.replace(y, z if c else z2) -/
def dRepIf (f : DE) (t : DT) (y z z2 : Nat) : DE := fun sl S => (f sl S).bind fun x S1 => match x with
  | .d (.str s) => (t sl S1).bind fun b S2 => kRep y (if b = true then z else z2) (.d (.str s)) S2
  | _ => .bad
theorem det_repIf {o c : Expr} {f : DE} {t : DT} {y z z2 : Nat} {j k l : Nat} {c0 c1 c2 ip apos pos : Pos} (ho : PET X o (denE B W f)) (hc : PT X c (denT B W t)) (hyz : ((⟨[y].toArray⟩ : Str) == ⟨[z].toArray⟩) = false := by decide) (hyz2 : ((⟨[y].toArray⟩ : Str) == ⟨[z2].toArray⟩) = false := by decide)
    (hst : starEach [.Constant (.str ⟨[y].toArray⟩) j c0, .IfExp c (.Constant (.str ⟨[z].toArray⟩) k c1) (.Constant (.str ⟨[z2].toArray⟩) l c2) ip] X.env = [(false, eval (.Constant (.str ⟨[y].toArray⟩) j c0) X.env), (false, eval (.IfExp c (.Constant (.str ⟨[z].toArray⟩) k c1) (.Constant (.str ⟨[z2].toArray⟩) l c2) ip) X.env)] := by rfl)
    (hbase : attributeBase o "replace" X.env (eval o X.env) = eval o X.env := by rfl) (hline : (apos.endLine == pos.line) = true := by rfl) :
    PET X (.Call (.Attribute o "replace" apos) [.Constant (.str ⟨[y].toArray⟩) j c0, .IfExp c (.Constant (.str ⟨[z].toArray⟩) k c1) (.Constant (.str ⟨[z2].toArray⟩) l c2) ip] [] pos) (denE B W (dRepIf f t y z z2)) := by
  intro pins s σ H Q h0 I h
  obtain ⟨Hk, m, F, sl, S, R, R2, q⟩ := h
  refine PySem.Call_method2 hbase hst hline (thnT h0 (ho pins s σ H _ h0 I (den_step (k := fun x S1 => match x with
    | .d (.str s) => (t sl S1).bind fun b S2 => kRep y (if b = true then z else z2) (.d (.str s)) S2
    | _ => .bad) R R2 q)) fun v s1 t1 ⟨v', H1, I1, r1, m1, F1, S1, x, R1, R21, G, rx, p⟩ => ?_)
  cases rx with
  | r _ => exact False.elim p
  | d rx =>
    cases rx with
    | str st =>
      obtain ⟨tx, rfl⟩ := r1
      refine ⟨"str", _, PySem.F.plainAttrs_str, PySem.F.slot_str_replace, PySem.F.type_str_replace, typeIs_str _ _ _, (fun _ e => nomatch e), Calls.callWith_builtin rfl (Calls.evalArgs_plain (Calls.spliced_cons (Calls.Constant_str (Calls.spliced_cons ?_))))⟩
      refine wpAny_IfExp (wpAny_mono (PySem.wpAny_toks_of (n := s1.toks + 1) (s := { s1 with toks := s1.toks + 1 }) (Nat.le_refl _) (hc.run pins { s1 with toks := s1.toks + 1 } σ H1 _ (I1.tok _) (den_step (rel := relT) (k := fun b S2 => kRep y (if b = true then z else z2) (.d (.str st)) S2) R1 R21 p))) (fun b s2 ⟨t2, H2, I2, m2, F2, S2, b', R3, R23, G2, rb, p2⟩ => ?_) fun _ _ q => q.2)
      cases rb
      simp only [kRep] at p2
      split at p2
      · rename_i hl
        have hlen : ∀ w : Nat, (⟨st.toArray⟩ : Str).length + ((⟨st.toArray⟩ : Str).length + 1) * (⟨[w].toArray⟩ : Str).length ≤ 16777216 := fun w => by
          rw [str_len]; show st.length + (st.length + 1) * 1 ≤ 16777216; omega
        have fin : ∀ (w : Nat) (t' k' : Nat), (w = if b = true then z else z2) → EP X pins σ Q (.str (Txt.replace ⟨st.toArray⟩ ⟨[y].toArray⟩ ⟨[w].toArray⟩) t') { s2 with toks := k' } := fun w t' k' e => by
          subst e
          refine ⟨.str ⟨(repC y (if b = true then z else z2) st).toArray⟩, H2, I2.tok _, ⟨t', by rw [rep_tl]⟩, p2 _ H2 m2 F2 R3 (Grow.refl _ _ _) (.d (.str _))⟩
        cases b with
        | true => exact Calls.Constant_str (Calls.spliced_nil (PySem.SC.replace (by show s1.toks ≠ 0; omega) (by show s2.toks ≠ 0; omega) (by show s1.toks ≠ s2.toks; omega) hyz (hlen z) fun t' k' => fin z t' k' rfl))
        | false => exact Calls.Constant_str (Calls.spliced_nil (PySem.SC.replace (by show s1.toks ≠ 0; omega) (by show s2.toks ≠ 0; omega) (by show s1.toks ≠ s2.toks; omega) hyz2 (hlen z2) fun t' k' => fin z2 t' k' rfl))
      · exact False.elim p2
    | _ => exact False.elim p
end
end Dn

set_option Elab.async false
set_option linter.all false
set_option maxRecDepth 100000
set_option maxHeartbeats 2000000
/-! Dn: methods of texts. -/
namespace Dn
open PySem PySem.Spec L2 PyProof.Rows

section
variable {X : Cx} {B : Bs} {W : WX}
/-- s.lower(), s of small codes -/
def lowD : D → Option D
  | .str s => if s.all (· < 128) && decide (s.length ≤ 1000000) then some (.str (s.map PyProof.Rows.lo1)) else none
  | _ => none
theorem p_lower : PrimM B W (fun x xs H Q => ∃ a, x = .str a ∧ xs = [] ∧ a.length ≤ 5592405 ∧ Q (.str (Txt.lower a)) H) (rdM0 lowD) := pm0 fun F H v a z Q f l1 e R => by
  cases l1 with
  | str s =>
    simp only [lowD] at e
    split at e
    · rename_i h
      rw [Bool.and_eq_true] at h
      cases e
      refine ⟨_, rfl, rfl, ?_, ?_⟩
      · rw [str_len]; have := of_decide_eq_true h.2; omega
      · rw [show (⟨s.toArray⟩ : Str) = SX.S s from rfl, SX.lower_S h.1]
        exact R.old _ (.str _)
    · cases e
  | _ => cases e
/-- s.count(c), c one sign -/
def cntD : D → D → Option D
  | .str s, .str [c] => some (.int (s.count c : Nat))
  | _, _ => none
theorem cnt_count (c : Nat) : ∀ s : List Nat, PyProof.Rows.cnt c s = (s.count c : Nat)
  | [] => by first | rfl | simp [PyProof.Rows.cnt]
  | d :: s => by
    rw [cnt_cons, cnt_count c s, List.count_cons]
    by_cases h : d = c
    · simp [h]; omega
    · simp [h]
theorem p_count : PrimM B W (fun x xs H Q => ∃ a b, x = .str a ∧ xs = [.str b] ∧ Q (.int (Txt.count a b)) H) (rdM1 cntD) := pm1 fun F H v w a b z Q f l1 l2 e R => by
  cases l1 with
  | str s =>
    cases l2 with
    | str t =>
      cases t with
      | nil => cases e
      | cons c r =>
        cases r with
        | cons _ _ => cases e
        | nil =>
          cases e
          refine ⟨_, _, rfl, rfl, ?_⟩
          have e1 : Txt.count ⟨s.toArray⟩ ⟨[c].toArray⟩ = ((s.count c : Nat) : Int) := by
            rw [show (⟨[c].toArray⟩ : Str) = ⟨#[c]⟩ from rfl, count_cnt, cnt_count]
          rw [e1]
          exact R.old _ (.int _)
    | _ => cases e
  | _ => cases e
end
end Dn

set_option Elab.async false
set_option linter.all false
set_option maxRecDepth 100000
set_option maxHeartbeats 2000000
/-! Dn: dicts with tuple keys, walked and listed. -/
namespace Dn
open PySem PySem.Spec L2 PyProof.Rows

def ItN (P : Program) (w : World) (a : Addr) (o : Obj) (es : List Ent) : It where
  go := fun i H => H a = some (dN P w a o es) ∧ i < es.length
  yld := fun i H v H' => H' = H ∧ ∃ x, es[i]? = some x ∧ v = .ref x.2.1
  stop := fun i H => H a = some (dN P w a o es) ∧ es.length ≤ i
theorem ents_at {P : Program} {w : World} {es' : Array DictEntry} {es : List Ent} (h : es'.toList = es.map (entryOfKey (nestedKind P w))) {i : Nat} {x : Ent} (hx : es[i]? = some x) : ∃ en, es'[i]? = some en ∧ en.key = .ref x.2.1 := by
  refine ⟨entryOfKey (nestedKind P w) x, ?_, rfl⟩
  rw [← Array.getElem?_toList, h, List.getElem?_map, hx]; rfl
theorem turn_dN {P : Program} {w : World} {K : PySem.W.Frag} {tg : Expr} {a : Addr} {o : Obj} {es : List Ent} {es' : Array DictEntry} {ep : Nat} (it : Addr) (hne : a ≠ it) (hd : o.data = .dict es' ep) (hl : es'.toList = es.map (entryOfKey (nestedKind P w))) :
    Turn P w K tg (ItN P w a o es) [it] it (fun i h => h.IsKeyIter it a i es'.size ep) where
  mem := by simp
  obj := fun i h ⟨oi, e, cc, dd⟩ b hb => by
    have e1 : b = it := by simpa using hb
    subst e1
    exact ⟨oi, e, fun v z => by rw [dd] at z; cases z⟩
  keep := fun i h h' st k => st.at fun oi e => k it (by simp) oi e
  item := by
    intro X hP hw hK hc i pins s σ H E I hf st ⟨ha, hi⟩
    subst hP hw hK
    obtain ⟨f0, f1, f2, f3, f4, f5⟩ := hf it (by simp)
    obtain ⟨⟨g, _, _, _⟩, _⟩ := I.hok a _ ha
    obtain ⟨en, hen, hk⟩ := ents_at hl (List.getElem?_eq_getElem hi)
    refine next_key_item st g hd rfl hen fun h' st' sb => ?_
    have I1 : Inv X pins σ H { s with heap := h' } := I.turned (t' := s.toks) (fun b ob hb e => (sb.2 b hb).trans e) f0 f1 f3 f4 f5
    obtain ⟨oi, e, cc, dd⟩ := id st'
    exact ⟨en.key, rfl, go_of (s := { s with heap := h' }) e cc dd (by decide) ⟨.ref es[i].2.1, H, I1, hk, ⟨rfl, es[i], List.getElem?_eq_getElem hi, rfl⟩, st', fun b hb => (hf b hb).1⟩⟩
  done := by
    intro X hP hw hK hc i pins s σ H E I hf st ⟨ha, hi⟩
    subst hP hw hK
    obtain ⟨f0, f1, f2, f3, f4, f5⟩ := hf it (by simp)
    obtain ⟨⟨g, _, _, _⟩, _⟩ := I.hok a _ ha
    have hsz : es'.size = es.length := by rw [← Array.length_toList, hl, List.length_map]
    exact next_key_end (I.ok.hd hc) st g hd rfl (by omega) fun h' eb => ⟨rfl, I.turned (t' := s.toks) (fun b ob hb e => eb b ob hb e) f0 f1 f3 f4 f5⟩
  self := fun _ _ _ _ _ st h => wpAny_pyIter_keyiter st h
def iDictN (P : Program) (w : World) (te : TE) : TI := fun σ H R => te σ H fun x H1 => ∃ a o es, x = .ref a ∧ H1 a = some (dN P w a o es) ∧ R (ItN P w a o es) H1
section
variable {X : Cx} {B : Bs} {W : WX}
theorem pi_dictN {tg e : Expr} {te : TE} (he : PE X e te) : PI X tg e (iDictN X.prog X.w te) := by
  refine ⟨fun pins s σ H R I h => thn (he.run pins s σ H _ I h) fun v s1 ⟨x, H1, J, r1, a, o, es, ex, ha, q⟩ => ?_⟩
  subst ex
  obtain rfl : v = Value.ref a := r1
  obtain ⟨⟨g, lo, hz, es', ep, hx, hd, hl, _⟩, _⟩ := J.hok a _ ha
  refine iter_keys lo g hx hd ⟨s1.heap.objs.size, [s1.heap.objs.size], _, _, H1, rfl, J.kept (t' := s1.toks) fun b o e => Heap.get?_push_of_some _ e, turn_dN _ (Nat.ne_of_lt (Heap.lt_size g)) hd hl, ⟨_, Heap.get?_push_size _ rfl, rfl, rfl⟩, fun b hb => ?_, q⟩
  have e : b = s1.heap.objs.size := by simpa using hb
  rw [e]
  exact J.fpOk (Nat.le_refl _) (J.hok.fresh (Nat.le_refl _))
/-- a dict's keys, walked: it is data, or becomes data -/
def iDict (f : DE) : DI := fun sl S => (f sl S).bind fun x S1 => (toD x S1).bind fun d S2 => match d with
  | .dct kvs => .ok (fun _ => some (kvs.map fun kv => Val.d (ofNK kv.1))) S2
  | _ => .bad
theorem ents_get {F : Hp} : ∀ {es : List Ent} {kvs : List (NestedKey × D)} {i : Nat} {x : Ent}, Ents B F es kvs → es[i]? = some x → ∃ kv, kvs[i]? = some kv ∧ Rel B F (.ref x.2.1) (ofNK kv.1)
  | _, _, _, _, .nil, h => by simp at h
  | _, _, 0, _, .cons h1 _ _ _ t, h => by
    simp at h; subst h
    exact ⟨_, rfl, h1⟩
  | _, _, i + 1, _, .cons _ _ _ _ t, h => by
    obtain ⟨kv, h1, h2⟩ := ents_get t (by simpa using h)
    exact ⟨kv, by simpa using h1, h2⟩
theorem toD_noexc (x : Val) (S : Sto) (c : Nat) (S2 : Sto) : toD x S ≠ .exc c S2 := by
  intro h
  unfold toD at h
  split at h
  · cases h
  · split at h
    · cases h
    · split at h <;> cases h
    · cases h
theorem ents_len {F : Hp} : ∀ {es : List Ent} {kvs : List (NestedKey × D)}, Ents B F es kvs → es.length = kvs.length
  | _, _, .nil => rfl
  | _, _, .cons _ _ _ _ t => by simp [ents_len t]
theorem ok_dict {m1 : List Addr} {F1 H1 : Hp} {a : Addr} {o : Obj} {es : List Ent} {kvs : List (NestedKey × D)} (hB : BX B X) (ha : F1 a = some (dN B.P B.w a o es)) (he : Ents B F1 es kvs) : ItOk B m1 F1 H1 (ItN X.prog X.w a o es) fun _ => some (kvs.map fun kv => Val.d (ofNK kv.1)) := by
  intro Hk i m F S H xs R G e
  cases e
  have hH : H a = some (dN X.prog X.w a o es) := by rw [← hB.P, ← hB.w]; exact R.froz _ _ (G.ff _ _ ha)
  refine ⟨fun x hx => ?_, fun hx => ⟨hH, ?_⟩⟩
  · have hi : i < kvs.length := by have := (List.getElem?_eq_some_iff.mp hx).1; simpa using this
    have hi2 : i < es.length := by rw [ents_len he]; exact hi
    refine ⟨⟨hH, hi2⟩, fun v H' ⟨e1, y, hy, ev⟩ => ?_⟩
    subst e1 ev
    obtain ⟨kv, h1, h2⟩ := ents_get he hy
    rw [List.getElem?_map, h1] at hx
    cases hx
    exact ⟨F, R, Grow.refl _ _ _, .d (h2.mono G.ff)⟩
  · rw [ents_len he]; simpa using hx
theorem di_dict {tg e : Expr} {f : DE} (hB : BX B X) (he : PE X e (denE B W f)) : PI X tg e (denI B W (iDict f)) :=
  PI_weak (pi_dictN he) fun σ H R ⟨Hk, m, F, sl, S, R1, R2, q⟩ => by
    refine ⟨Hk, m, F, sl, S, R1, R2, ?_⟩
    unfold iDict at q
    cases e0 : f sl S with
    | exc c S' => rw [e0] at q; exact q
    | bad => rw [e0] at q; exact q
    | ok x S1 =>
      rw [e0, Out.bind_ok] at q
      intro v H' m' F' R3 G r
      cases e1 : toD x S1 with
      | exc c S2 => exact absurd e1 (toD_noexc x S1 c S2)
      | bad => rw [e1] at q; exact False.elim q
      | ok d S2 =>
        rw [e1, Out.bind_ok] at q
        obtain ⟨F2, R4, G2, r2⟩ := keepD R3 r e1
        cases r2 with
        | dct hF he => exact ⟨_, _, _, rfl, by rw [← hB.P, ← hB.w]; exact R4.froz _ _ hF, q _ m' F2 H' R4 (G.trans G2) (ok_dict hB hF he)⟩
        | _ => exact False.elim q
/-! ### list(d) -/
def rListN (B : Bs) : List V → Hp → VK → Prop := fun xs H Q => ∃ a o es, xs = [V.ref a] ∧ H a = some (dN B.P B.w a o es) ∧ ∀ p, H p = none → Q (.ref p) (upd H p (.lst (es.map fun x => V.ref x.2.1)))
theorem call_list_dN (hc : X.calm = true) (hB : BX B X) : CallR X (.type "list") (rListN B) := by
  intro pins s σ H xs us Q I r ⟨a, o, es, e, ha, q⟩
  subst e
  obtain ⟨u, rfl, ru⟩ := r.one
  cases ru
  obtain ⟨⟨g, lo, hz, es', ep, hx, hd, hl, _⟩, _⟩ := I.hok a _ ha
  have hsz : es'.size = es.length := by rw [← Array.length_toList, hl, List.length_map]
  refine PySem.W.kdl_call (kdl_raw lo hx hd) (I.ok.hd hc) g (by omega) fun h' tk acc' c' kp e it => ?_
  have ea : acc'.toList = es.map fun x => Value.ref x.2.1 := by
    apply List.ext_getElem?
    intro i
    rw [Array.getElem?_toList, List.getElem?_map]
    cases e1 : acc'[i]? with
    | none =>
      have h1 := it.1
      have h2 := Array.getElem?_eq_none_iff.mp e1
      rw [List.getElem?_eq_none (by omega)]; rfl
    | some v =>
      obtain ⟨en, e2, rfl⟩ := it.2 i v e1
      rw [← Array.getElem?_toList, hl, List.getElem?_map] at e2
      cases e3 : es[i]? with
      | none => rw [e3] at e2; cases e2
      | some x => rw [e3] at e2; cases e2; rfl
  have rv : Vals (es.map fun x => V.ref x.2.1) acc'.toList := by rw [ea]; exact vals_ents es
  have hz2 : (es.map fun x => V.ref x.2.1).length ≤ sizeLine := by rw [List.length_map]; exact hz
  refine ⟨.ref s.heap.objs.size, _, I.laid (t' := tk) (o := .lst (es.map fun x => V.ref x.2.1)) kp (Nat.le_refl _) ?_, rfl, q _ (I.hok.fresh (Nat.le_refl _))⟩
  exact ⟨hz2, acc'.toList, c', rv, by rw [Array.toArray_toList]; exact e⟩
def lstND : D → Option D
  | .dct kvs => some (.lst (kvs.map fun kv => ofNK kv.1))
  | _ => none
theorem p_lstN (hB : BX B X) : PrimA B W (rListN B) (rdA1 lstND) := pA1 fun F H v a z Q f l e R => by
  cases l with
  | dct q r =>
    cases e
    exact ⟨_, _, _, rfl, q, fun p hp => R.new p _ hp (.lst (.inl upd_same) ((keys_relD r).mono (same_own (f.free hp))))⟩
  | _ => cases e
/-! ### len(d) -/
def rLenN (B : Bs) : List V → Hp → VK → Prop := fun xs H Q => ∃ a o es kvs, xs = [V.ref a] ∧ H a = some (dN B.P B.w a o es) ∧ Ents B H es kvs ∧ Q (.int (kvs.length : Nat)) H
theorem call_len_dN (hB : BX B X) : CallR X (.builtin "len") (rLenN B) := by
  intro pins s σ H xs us Q I r ⟨a, o, es, kvs, e, ha, he, q⟩
  subst e
  obtain ⟨u, rfl, ru⟩ := r.one
  cases ru
  obtain ⟨dd, hd, hz⟩ := dN_at hB I ha he.keys
  refine call_len_dictH hd dd (by rw [sizeLine_eq] at hz; omega) ?_
  rw [ents_len he]
  exact ⟨.int ((kvs.length : Nat) : Int), H, I.tok _, ⟨_, rfl⟩, q⟩
def lenND : D → Option D
  | .dct kvs => some (.int (kvs.length : Nat))
  | _ => none
theorem p_lenN (hB : BX B X) : PrimA B W (rLenN B) (rdA1 lenND) := pA1 fun F H v a z Q f l e R => by
  cases l with
  | dct q r =>
    cases e
    exact ⟨_, _, _, _, rfl, q, r.mono f, R.old _ (.int _)⟩
  | _ => cases e
end
end Dn

set_option Elab.async false
set_option linter.all false
set_option maxRecDepth 100000
set_option maxHeartbeats 2000000
/-! Dn: x[::-1] of lists, tuples, texts. -/
namespace Dn
open PySem PySem.Spec L2 PyProof.Rows
section
variable {prog : Program} {w : World} {A : Around} {E : Value → Shared → Prop} {s : Shared}
theorem rev_idx (n : Nat) : Builtin.Str.strSliceIndices none none (-1) n = (List.range n).reverse := by
  show sliceRange ((n : Int) - 1) (-1) (-1) = _
  rw [PySem.W.krv_sliceRange, PySem.W.krv_range]
theorem rev_all {α : Type} (xs : Array α) : ((List.range xs.size).reverse).filterMap (xs[·]?) = xs.toList.reverse := by
  rw [List.filterMap_reverse, PySem.W.krv_all]
theorem sliceApplied_rev {sl : Addr} {vl vu vs : Value} {n : Nat} {Q : Int × Int × Nat → Shared → Prop} (hs : s.heap.IsSliceOf sl vl vu vs) (pl : IsPart vl none) (pu : IsPart vu none) (ps : IsPart vs (some (-1)))
    (h : Q ((n : Int) - 1, -1, n) s) : wpAny (model prog w) A (Builtin.Slice.sliceApplied (.ref sl) (pure (n : Int))) Q E s := by
  obtain ⟨os, hos, hcs, hds⟩ := id hs
  unfold Builtin.Slice.sliceApplied Builtin.Slice.sliceFields
  refine wpAny_bind (wpAny_bind (wpAny_field hos hds (x := vl) rfl (wpAny_bind (wpAny_field hos hds (x := vu) rfl (wpAny_bind (wpAny_field hos hds (x := vs) rfl (wpAny_pure ?_)))))))
  refine wpAny_bind (HT.slicePart_ ps ?_)
  show wpAny _ _ (if ((-1 : Int) == 0) = true then _ else _) _ _ s
  rw [if_neg (by decide)]
  refine wpAny_bind (HT.slicePart_ pl (wpAny_bind (HT.slicePart_ pu (wpAny_bind (wpAny_pure ?_)))))
  have e : Builtin.Slice.slicePlaces ((n : Int) - 1) (-1) (-1) = n := by
    unfold Builtin.Slice.slicePlaces
    rw [if_neg (by decide)]
    by_cases h : (n : Int) - 1 > -1
    · rw [if_pos h, show (- -1 : Int) = 1 by decide, Int.ediv_one]; omega
    · rw [if_neg h]; omega
  show wpAny _ _ (pure ((n : Int) - 1, (-1 : Int), Builtin.Slice.slicePlaces ((n : Int) - 1) (-1) (-1))) _ _ s
  rw [e]
  exact wpAny_pure h
theorem fm_congr {α β : Type} {f g : α → Option β} : ∀ l : List α, (∀ x ∈ l, f x = g x) → l.filterMap f = l.filterMap g
  | [], _ => rfl
  | a :: l, h => by
    rw [List.filterMap_cons, List.filterMap_cons, h a List.mem_cons_self, fm_congr l fun x hx => h x (List.mem_cons_of_mem _ hx)]
theorem pick_rev (xs : Array Value) : ((List.range xs.size).filterMap fun (m : Nat) => xs[(((xs.size : Int) - 1) + (m : Int) * (-1)).toNat]?).toArray = xs.toList.reverse.toArray := by
  have h := rev_all xs
  rw [← PySem.W.krv_range, List.filterMap_map] at h
  rw [← h]
  congr 1
  refine fm_congr _ fun m hm => ?_
  have := List.mem_range.mp hm
  show xs[_]? = xs[xs.size - 1 - m]?
  rw [show (((xs.size : Int) - 1) + (m : Int) * (-1)).toNat = xs.size - 1 - m by omega]
theorem getItem_tuple_rev {t sl : Addr} {items : Array Value} {vl vu vs : Value} {Q : Value → Shared → Prop} (ht : IsTup s.heap t items) (hs : s.heap.IsSliceOf sl vl vu vs) (pl : IsPart vl none) (pu : IsPart vu none) (ps : IsPart vs (some (-1)))
    (h : Q (.ref s.heap.objs.size) { s with heap := s.heap.push { cls := .type "tuple", data := .seq items.toList.reverse.toArray } })
    (hsz : items.size ≤ sizeLine) : wpAny (model prog w) A (getItem (.ref t) (.ref sl)) Q E s := by
  have htake : sizeOk (.seq items.toList.reverse.toArray) := by
    show items.toList.reverse.toArray.size ≤ sizeLine
    rw [List.size_toArray, List.length_reverse, Array.length_toList]; exact hsz
  obtain ⟨os, hos, hcs, hds⟩ := id hs
  have hTs : s.TypeIs (.ref sl) "slice" := ⟨os, hos, hcs⟩
  unfold getItem
  try with_reducible refine wpAny_holding ?_
  first | refine wpAny_bind (wpAny_pure ?_) | skip
  refine wpAny_bind (wpAny_sequenceKey ht.typeIs (by decide) ?_)
  refine wpAny_bind (wpAny_callSpecial?_slot (name := Str.ofString "__getitem__") ht.typeIs PyProof.Rows.slot_tuple_getitem
    (wpAny_call_entry PyProof.Rows.slot_tuple_getitem ht.typeIs entry_tuple_getitem ?_ (args_tuple_getitem _ _)))
  show wpAny _ _ (Builtin.Tuple.tupleItemsOf (.ref t) >>= _) _ _ s
  refine wpAny_bind (tupleItemsOf_ ht ?_)
  refine wpAny_bind (wpAny_typeOf hTs ?_)
  rw [if_pos (by decide)]
  refine wpAny_bind (sliceApplied_rev hs pl pu ps ?_)
  have hno : ¬ ((((items.size : Int) - 1) == 0 && (-1 : Int) == 1 && items.size == items.size) = true) := by
    intro q
    rw [Bool.and_eq_true, Bool.and_eq_true] at q
    exact absurd (eq_of_beq q.1.2) (by decide)
  show wpAny _ _ (if (((items.size : Int) - 1) == 0 && (-1 : Int) == 1 && items.size == items.size) = true then _ else _) _ _ s
  rw [if_neg hno, pick_rev]
  first
    | exact wpAny_bind (m := Builtin.Tuple.tupleExact _) (wpAny_newObj_type (wpAny_pure ⟨_, rfl, wpAny_pure h⟩) htake)
    | exact wpAny_bind (m := Builtin.Tuple.tupleExact _) (wpAny_newObj_type (wpAny_bind (wpAny_pure (wpAny_pure ⟨_, rfl, wpAny_pure h⟩))) htake)
    | exact wpAny_bind (wpAny_bind (m := Builtin.Tuple.tupleExact _) (wpAny_newObj_type (wpAny_pure (wpAny_pure ⟨_, rfl, wpAny_pure h⟩)) htake))
    | exact wpAny_bind (wpAny_bind (m := Builtin.Tuple.tupleExact _) (wpAny_newObj_type (wpAny_pure ⟨_, rfl, wpAny_pure h⟩) htake))
end
section
variable {X : Cx} {B : Bs} {W : WX}
def rRev (K : PySem.W.Frag) : V → Hp → VK → Prop := fun x H1 Q => (∃ a xs, x = .ref a ∧ SqL K H1 a xs ∧ ∀ p, H1 p = none → Q (.ref p) (upd H1 p (.lst xs.reverse))) ∨
  (∃ a xs, x = .ref a ∧ SqT K H1 a xs ∧ ∀ p, H1 p = none → Q (.ref p) (upd H1 p (.tup xs.reverse))) ∨
  ∃ z : Str, x = .str z ∧ z.length ≤ sizeLine ∧ Q (.str ⟨z.cps.toList.reverse.toArray⟩) H1
theorem pe_rev {e : Expr} {te : TE} {k : Nat} {p1 p2 p3 pos : Pos} (he : PE X e te) : PE X (.Subscript e (.Slice none none (some (.UnaryOp .USub (.Constant (.int 1) k p1) p2)) p3) pos) (fun σ H Q => te σ H fun x H1 => rRev X.K x H1 Q) := by
  refine ⟨fun pins s σ H Q I h => ?_⟩
  refine Subscript_ (thn (he.run pins s σ H _ I h) fun v s1 ⟨x, H1, I1, r1, q1⟩ => ?_)
  have hst : PO X (some (.UnaryOp .USub (.Constant (.int 1) k p1) p2)) (tPart (tUn (rU fun i => .int (-i)) (tC (.int 1)))) := po_some (pe_un un_neg pe_int)
  refine wpAny_Slice (thn (po_none.run pins s1 σ H1 (fun o H2 => o = none ∧ H2 = H1) I1 ⟨rfl, rfl⟩) fun vl s2 ⟨l, H2, I2, pl, el, e2⟩ => ?_)
  subst el e2
  refine thn (po_none.run pins s2 σ H2 (fun o H3 => o = none ∧ H3 = H2) I2 ⟨rfl, rfl⟩) fun vu s3 ⟨u, H3, I3, pu, eu, e3⟩ => ?_
  subst eu e3
  refine thn (hst.run pins s3 σ H3 (fun o H4 => o = some (-1) ∧ H4 = H3) I3 ⟨1, rfl, -1, rfl, rfl, rfl⟩) fun vs s4 ⟨o, H4, I4, ps, eo, e4⟩ => ?_
  subst eo e4
  have I5 : Inv X pins σ H4 { s4 with heap := s4.heap.push { cls := .type "slice", data := .fields #[vl, vu, vs] } } := I4.kept (t' := s4.toks) fun b ob q => Heap.get?_push_of_some _ q
  rcases q1 with ⟨a, xs, ex, hx, q⟩ | ⟨a, xs, ex, hx, q⟩ | ⟨z, ex, hz, q⟩
  · subst ex
    cases r1
    obtain ⟨its, r, ht, hz⟩ := I5.list hx
    have hlen := r.length
    show wpAny (model X.prog X.w) X.A (subscriptTail e (.Slice none none (some (.UnaryOp .USub (.Constant (.int 1) k p1) p2)) p3) (.ref a) (.ref s4.heap.objs.size)) (EP X pins σ Q) X.xe { s4 with heap := s4.heap.push { cls := .type "slice", data := .fields #[vl, vu, vs] } }
    refine tail_any (ops := [.ref a, .ref s4.heap.objs.size]) ht.isList.typeIs (PySem.slot_list_getitem.lookup) ?_ (by with_unfolding_all rfl)
    refine wpAny_getItem_list_slice ht.isList (Heap.IsSliceOf.new _ vl vu vs) pl pu ps (by decide) ?_ (by rw [List.size_toArray]; omega)
    rw [PySem.W.krv_pick]
    refine ⟨.ref _, _, I5.laid (t' := s4.toks) (o := .lst xs.reverse) (fun b ob q => Heap.get?_push_of_some _ q) (Nat.le_refl _) ?_, rfl, q _ (I5.hok.fresh (Nat.le_refl _))⟩
    exact ⟨by rw [List.length_reverse]; exact hz, _, 0, r.reverse, Heap.get?_push_size _ rfl⟩
  · subst ex
    cases r1
    obtain ⟨its, r, ht, hz⟩ := I5.tuple hx
    have hlen : its.toArray.size = xs.length := by rw [List.size_toArray]; exact r.length.symm
    show wpAny (model X.prog X.w) X.A (subscriptTail e (.Slice none none (some (.UnaryOp .USub (.Constant (.int 1) k p1) p2)) p3) (.ref a) (.ref s4.heap.objs.size)) (EP X pins σ Q) X.xe { s4 with heap := s4.heap.push { cls := .type "slice", data := .fields #[vl, vu, vs] } }
    refine tail_any (ops := [.ref a, .ref s4.heap.objs.size]) ht.typeIs (PyProof.Rows.slot_tuple_getitem.lookup) ?_ (by with_unfolding_all rfl)
    refine getItem_tuple_rev ht (Heap.IsSliceOf.new _ vl vu vs) pl pu ps ?_ (by rw [hlen]; exact hz)
    refine ⟨.ref _, _, I5.laid (t' := s4.toks) (o := .tup xs.reverse) (fun b ob q => Heap.get?_push_of_some _ q) (Nat.le_refl _) ?_, rfl, q _ (I5.hok.fresh (Nat.le_refl _))⟩
    exact ⟨by rw [List.length_reverse]; exact hz, _, r.reverse, IsTup.new _ _⟩
  · subst ex
    obtain ⟨t, rfl⟩ := r1
    obtain ⟨st, rfl, est⟩ := IsPart.raw ps
    obtain ⟨l, rfl, el⟩ := IsPart.raw pl
    obtain ⟨u, rfl, eu⟩ := IsPart.raw pu
    have el : l = none := by cases l <;> first | rfl | cases el
    have eu : u = none := by cases u <;> first | rfl | cases eu
    subst el eu
    show wpAny (model X.prog X.w) X.A (subscriptTail e (.Slice none none (some (.UnaryOp .USub (.Constant (.int 1) k p1) p2)) p3) (.str z t) (.ref s4.heap.objs.size)) (EP X pins σ Q) X.xe { s4 with heap := s4.heap.push { cls := .type "slice", data := .fields #[_, _, _] } }
    refine tail_any (ops := [.ref s4.heap.objs.size, .str z t]) (typeIs_str _ _ _) F.slot_str_getitem.lookup ?_ (by with_unfolding_all rfl)
    refine wpAny_getItem_str_slice (l := none) (u := none) (st := st) ⟨_, Heap.get?_push_size _ rfl, rfl, rfl⟩ (by rw [est]; rfl) ?_
    have e2 : slicePicked z none none st = (List.range z.length).reverse := by
      unfold slicePicked
      rw [est]
      exact rev_idx z.length
    have e3 : ((List.range z.length).reverse).filterMap (z.cps[·]?) = z.cps.toList.reverse := rev_all z.cps
    unfold sliceMade
    rw [e2, est, if_neg (show ¬ (((some (-1 : Int)).getD 1 == 1 && ((List.range z.length).reverse).length == z.length) = true) from fun h => by cases h), e3]
    have hl : (⟨z.cps.toList.reverse.toArray⟩ : Str).length ≤ sizeLine := by
      show z.cps.toList.reverse.toArray.size ≤ sizeLine
      rw [List.size_toArray, List.length_reverse, Array.length_toList]; exact hz
    exact ⟨hl, .str _, H4, I5.tok _, ⟨_, rfl⟩, q⟩
def rev3D : D → Option D
  | .lst xs => some (.lst xs.reverse)
  | .tup xs => some (.tup xs.reverse)
  | .str s => if s.length ≤ 16777216 then some (.str s.reverse) else none
  | _ => none
theorem de_rev {e : Expr} {f : DE} {k : Nat} {p1 p2 p3 pos : Pos} (hB : BX B X) (he : PE X e (denE B W f)) : PE X (.Subscript e (.Slice none none (some (.UnaryOp .USub (.Constant (.int 1) k p1) p2)) p3) pos) (denE B W (d1 f (rd1 rev3D))) :=
  PE_weak (pe_rev he) fun σ H Q q => w_d1 (r := rRev X.K) (prim1_rd fun F H v a z Q f l e R => by
    cases l with
    | lst q r => cases e; exact .inl ⟨_, _, rfl, .inl q, fun p hp => R.new p _ hp (.lst (.inl upd_same) (r.reverse.mono (same_own (f.free hp))))⟩
    | tup q r =>
      cases e
      exact .inr (.inl ⟨_, _, rfl, hB.K ▸ SqT.same f q, fun p hp => R.new p _ hp (.tup (SqT.of upd_same) (r.reverse.mono (same_own (f.free hp))))⟩)
    | str s =>
      simp only [rev3D] at e
      by_cases hz : s.length ≤ 16777216
      · rw [if_pos hz] at e
        cases e
        exact .inr (.inr ⟨_, rfl, by rw [str_len, szl]; exact hz, R.old _ (.str _)⟩)
      · rw [if_neg hz] at e; cases e
    | _ => cases e) q
/-! ### a display of texts by texts -/
def dspV (kvs : List (List Nat × List Nat)) : List (Key × V) := kvs.map fun x => (.inr ⟨x.1.toArray⟩, .str ⟨x.2.toArray⟩)
def dspD (kvs : List (List Nat × List Nat)) : List (Key × Val) := kvs.map fun x => (.inr ⟨x.1.toArray⟩, .d (.str x.2))
def cDispS (kvs : List (List Nat × List Nat)) : DE := fun sl S => .ok (.r S.length) (S ++ [Cell.dck (dspD kvs)])
def dspT (kvs : List (List Nat × List Nat)) : List (TE × TE) := kvs.map fun x => (tC (.str ⟨x.1.toArray⟩), tC (.str ⟨x.2.toArray⟩))
theorem dsp_pairs {σ : L2.St} {H : Hp} : ∀ {kvs : List (List Nat × List Nat)} {Q : List (V × V) → Hp → Prop}, Q ((dspV kvs).map fun kv => (kV kv.1, kv.2)) H → tPairs (dspT kvs) σ H Q
  | [], Q, h => h
  | x :: r, Q, h => by
    show tPairs (dspT r) σ H fun ps H3 => Q ((V.str ⟨x.1.toArray⟩, V.str ⟨x.2.toArray⟩) :: ps) H3
    exact dsp_pairs h
theorem dsp_rel {m : List Addr} {F : Hp} : ∀ kvs : List (List Nat × List Nat), KvXs B m F (dspV kvs) (dspD kvs)
  | [] => .nil
  | x :: r => .cons (.d (.str x.2)) (dsp_rel r)
theorem de_dispS {keys : List (Option Expr)} {values : List Expr} {pos : Pos} (kvs : List (List Nat × List Nat)) (h : PPs X pos keys values (dspT kvs)) (hall : keys.all (·.isSome) = true := by rfl) (hl : keys.length = values.length := by rfl) (h0 : keys ≠ [] := by exact fun h => nomatch h)
    (h15 : keys.length ≤ 15 := by decide) (h16 : kvs.length ≤ 15 := by decide) (hm : mergeK [] (dspV kvs) = dspV kvs := by rfl) : PE X (.Dict keys values pos) (denE B W (cDispS kvs)) :=
  PE_weak (pe_disp h hall hl h0 h15) fun σ H Q ⟨Hk, m, F, sl, S, R, R2, q⟩ p hp => by
    refine dsp_pairs ⟨upd_same, dspV kvs, rfl, by simp [dspV]; exact h16, ?_⟩
    rw [hm, upd_upd]
    obtain ⟨R', G⟩ := R.newC (o := .dK (dspV kvs)) (c := .dck (dspD kvs)) hp ⟨R.none hp, dspV kvs, upd_same, dsp_rel kvs⟩
    exact q _ _ _ F R' G (.r (app_last R.len))
end
end Dn

set_option Elab.async false
set_option linter.all false
set_option maxRecDepth 100000
set_option maxHeartbeats 2000000
/-! Dn: list(range(..)). -/
namespace Dn
open PySem PySem.Spec L2 PyProof.Rows
section
variable {X : Cx} {B : Bs} {W : WX}
def rgb (a b : Int) : Bool := decide (-(2 ^ 62) ≤ a) && (decide (a < 2 ^ 62) && (decide (-(2 ^ 62) ≤ b) && (decide (b < 2 ^ 62) && decide ((b - a).toNat ≤ 16777216))))
theorem rgb_ok {a b : Int} (h : rgb a b = true) : RgOk a b := by
  unfold rgb at h
  simp only [Bool.and_eq_true, decide_eq_true_eq] at h
  exact ⟨h.1, h.2.1, h.2.2.1, h.2.2.2.1, h.2.2.2.2⟩
def rgD (a b : Int) : D := .lst ((List.range (b - a).toNat).map fun i => D.int (a + (i : Nat)))
theorem rels_rg {F : Hp} (a : Int) : ∀ l : List Nat, Rels B F (l.map fun i => V.int (a + (i : Nat))) (l.map fun i => D.int (a + (i : Nat)))
  | [] => .nil
  | _ :: l => .cons (.int _) (rels_rg a l)
def kRg (a b : Int) (S : Sto) : Out Val := if rgb a b = true then .ok (.d (rgD a b)) S else .bad
def iOf (x : Val) : Option Int := match x with
  | .d (.int i) => some i
  | _ => none
def kLr1 (x : Val) (S : Sto) : Out Val := match iOf x with
  | some j => kRg 0 j S
  | none => .bad
def kLr2 (x y : Val) (S : Sto) : Out Val := match iOf x, iOf y with
  | some i, some j => kRg i j S
  | _, _ => .bad
theorem iOf_rel {m : List Addr} {F : Hp} {v : V} {x : Val} {i : Int} (r : RelX B m F v x) (h : iOf x = some i) : v = .int i := by
  cases x with
  | r _ => cases h
  | d x =>
    cases x with
    | int j =>
      cases h
      cases r with
      | d r => cases r; rfl
    | _ => cases h
theorem rg_post {Hk : Hp} {σ : L2.St} {m : List Addr} {F H : Hp} {S : Sto} {a b : Int} {Q : VK} (R : RH B Hk m F S H) (p : post B W (relE B) Hk σ m F H (kRg a b S) Q) : RgOk a b ∧ ∀ q, H q = none → Q (.ref q) (upd H q (.lst (rgV a b))) := by
  unfold kRg at p
  by_cases h : rgb a b = true
  · rw [if_pos h] at p
    refine ⟨rgb_ok h, fun q hq => ?_⟩
    exact (res_of R p).new q _ hq (.lst (.inl upd_same) (rels_rg a _))
  · rw [if_neg h] at p; exact False.elim p
theorem de_listRg1 {a : Expr} {f : DE} {p p2 pos pos2 : Pos} (hc : X.calm = true) (hg : Gl X "list") (hm : X.mg "list" = none) (hg2 : Gl X "range") (hm2 : X.mg "range" = none) (ha : PE X a (denE B W f))
    (na : starEach [a] X.env = (false, eval a X.env) :: starEach [] X.env := by rfl) (nb : starEach [Expr.Call (.Name "range" p) [a] [] pos] X.env = (false, eval (.Call (.Name "range" p) [a] [] pos) X.env) :: starEach [] X.env := by rfl) :
    PE X (.Call (.Name "list" p2) [.Call (.Name "range" p) [a] [] pos] [] pos2) (denE B W (d1 f kLr1)) :=
  PE_weak (pe_listRg hc hg hm (prg_1 hg2 hm2 ha na) nb) fun σ H Q q => by
    refine w_d1 (r := fun x H1 Q => ∃ n, x = .int n ∧ RgOk 0 n ∧ ∀ q, H1 q = none → Q (.ref q) (upd H1 q (.lst (rgV 0 n)))) (fun Hk σ m F S H v x Q R r p => ?_) q
    unfold kLr1 at p
    cases e : iOf x with
    | none => rw [e] at p; exact False.elim p
    | some j => rw [e] at p; exact ⟨j, iOf_rel r e, rg_post R p⟩
theorem de_listRg2 {a b : Expr} {f g : DE} {p p2 pos pos2 : Pos} (hc : X.calm = true) (hg : Gl X "list") (hm : X.mg "list" = none) (hg2 : Gl X "range") (hm2 : X.mg "range" = none) (ha : PE X a (denE B W f)) (hb : PE X b (denE B W g))
    (na : starEach [a, b] X.env = (false, eval a X.env) :: starEach [b] X.env := by rfl) (nb : starEach [b] X.env = (false, eval b X.env) :: starEach [] X.env := by rfl) (hp : (backTo pos (starEach [b] X.env)).any (·.1) = false := by rfl)
    (nc : starEach [Expr.Call (.Name "range" p) [a, b] [] pos] X.env = (false, eval (.Call (.Name "range" p) [a, b] [] pos) X.env) :: starEach [] X.env := by rfl) :
    PE X (.Call (.Name "list" p2) [.Call (.Name "range" p) [a, b] [] pos] [] pos2) (denE B W (d2 f g kLr2)) :=
  PE_weak (pe_listRg hc hg hm (prg_2 hg2 hm2 ha hb na nb hp) nc) fun σ H Q q => by
    refine (w_d2 (r := fun x y H1 Q => ∃ i j, x = .int i ∧ y = .int j ∧ RgOk i j ∧ ∀ q, H1 q = none → Q (.ref q) (upd H1 q (.lst (rgV i j)))) (fun Hk σ m F S H v w x y Q R r r2 p => ?_) q)
    unfold kLr2 at p
    cases e : iOf x with
    | none => rw [e] at p; exact False.elim p
    | some i =>
      cases e2 : iOf y with
      | none => rw [e, e2] at p; exact False.elim p
      | some j => rw [e, e2] at p; exact ⟨i, j, iOf_rel r e, iOf_rel r2 e2, rg_post R p⟩
/-! ### list + list: a new cell -/
def kAddC (x y : Val) (S : Sto) : Out Val := match lstItems S x, lstItems S y with
  | some xs, some ys => if xs.length + ys.length ≤ 16777216 then .ok (.r S.length) (S ++ [Cell.lst (xs ++ ys)]) else .bad
  | _, _ => .bad
theorem p_addC : Prim2 B W (rAddAll X.K) kAddC := by
  intro Hk σ m F S H v w x y Q R r1 r2 p
  unfold kAddC at p
  cases e1 : lstItems S x with
  | none => rw [e1] at p; exact False.elim p
  | some xs =>
    cases e2 : lstItems S y with
    | none => rw [e1, e2] at p; exact False.elim p
    | some ys =>
      rw [e1, e2] at p
      dsimp only at p
      by_cases hz : xs.length + ys.length ≤ 16777216
      · rw [if_pos hz] at p
        obtain ⟨a, us, rfl, h1, h2⟩ := lst_items R r1 e1
        obtain ⟨b, vs, rfl, h3, h4⟩ := lst_items R r2 e2
        refine .inr (.inr (.inl ⟨a, b, us, vs, rfl, rfl, h1, h3, by rw [h2.len, h4.len, szl]; exact hz, fun l hl => ?_⟩))
        obtain ⟨R', G⟩ := R.newC (o := .lst (us ++ vs)) (c := .lst (xs ++ ys)) hl ⟨R.none hl, us ++ vs, upd_same, (h2.append h4).mono ⟨[l], rfl⟩ (fun _ _ h => h)⟩
        exact p _ _ _ F R' G (.r (app_last R.len))
      · rw [if_neg hz] at p; exact False.elim p
/-! ### s.index(t) of texts -/
def sidxD : D → D → Option D
  | .str s, .str t => match Builtin.Str.occurrences ⟨s.toArray⟩ ⟨t.toArray⟩ 0 s.length 1 with
    | i :: _ => some (.int (i : Nat))
    | [] => none
  | _, _ => none
theorem p_sidx : PrimM B W (fun x xs H Q => ∃ a b i rest, x = .str a ∧ xs = [.str b] ∧ Builtin.Str.occurrences a b 0 a.length 1 = i :: rest ∧ Q (.int (i : Nat)) H) (rdM1 sidxD) := pm1 fun F H v w a b z Q f l1 l2 e R => by
  cases l1 with
  | str s =>
    cases l2 with
    | str t =>
      simp only [sidxD] at e
      split at e
      · rename_i i r h
        cases e
        exact ⟨_, _, i, r, rfl, rfl, by rw [str_len]; exact h, R.old _ (.int _)⟩
      · cases e
    | _ => cases e
  | _ => cases e
/-! ### x in (a, b, ..), of data of any kind -/
def rInT (K : PySem.W.Frag) (neg : Bool) : R2 := fun x y H Q => ∃ d ds, Dp K H x d ∧ Dp K H y (.tuple ds) ∧ SeqAt.shaped d = true ∧ SeqAt.shaped (.tuple ds) = true ∧ Q (.bl (if neg then !ds.any fun z => PyData.eqv z d else ds.any fun z => PyData.eqv z d)) H
theorem op_inT (hu : X.A.units + 65 < cLine) : OpR X (compareOp .In) (rInT X.K false) := by
  intro pins s σ H x y v u Q I rx ry h
  obtain ⟨d, ds, hd, he, sd, se, q⟩ := h
  obtain ⟨as, r1⟩ := Dp.reads I d x v hd rx
  obtain ⟨bs, r2⟩ := Dp.reads I (.tuple ds) y u he ry
  exact SeqAt.in_tuple_reads r2 r1 (SeqAt.canLay_of_shaped se) (SeqAt.canLay_of_shaped sd) (room_in_shaped sd hu) ⟨.bl _, H, I, rfl, q⟩
theorem op_notInT (hu : X.A.units + 65 < cLine) : OpR X (compareOp .NotIn) (rInT X.K true) := by
  intro pins s σ H x y v u Q I rx ry h
  obtain ⟨d, ds, hd, he, sd, se, q⟩ := h
  obtain ⟨as, r1⟩ := Dp.reads I d x v hd rx
  obtain ⟨bs, r2⟩ := Dp.reads I (.tuple ds) y u he ry
  exact SeqAt.notIn_tuple_reads r2 r1 (SeqAt.canLay_of_shaped se) (SeqAt.canLay_of_shaped sd) (room_in_shaped sd hu) ⟨.bl _, H, I, rfl, q⟩
def inTD (neg : Bool) (x y : D) : Option D := match y with
  | .tup ys => if okD 59 x && okDs 59 ys then some (.bl (if neg then !ys.any fun y => eqv y x else ys.any fun y => eqv y x)) else none
  | _ => none
theorem p_inT (hB : BX B X) (neg : Bool) : Prim2 B W (rInT X.K neg) (rd2 (inTD neg)) := prim2_rd fun F H v w a b z Q f l1 l2 e R => by
  cases l2 with
  | tup q2 r2 =>
    rename_i p xs ds
    have r1 := l1.rel f
    simp only [inTD] at e
    split at e
    · rename_i hz
      cases e
      rw [Bool.and_eq_true] at hz
      have o1 : okD 60 a = true := okD_mono _ _ hz.1
      have o2 : okD 60 (.tup ds) = true := by rw [okD]; exact hz.2
      have hd : Dp X.K H (.ref p) (toPy (.tup ds)) := hB.K ▸ (Rel.tup (B := B) (SqT.same f q2) (r2.mono f)).dp 60 o2
      rw [toPy] at hd
      have hs := shaped_of o2
      rw [toPy] at hs
      have e2 : ((toPys ds).any fun z => PyData.eqv z (toPy a)) = ds.any fun y => eqv y a := by
        have h2 := hz.2
        clear hd hs q2 r2 o2 R hz
        induction ds with
        | nil => simp [toPys]
        | cons d ds ih =>
          simp only [okDs, Bool.and_eq_true] at h2
          simp only [toPys, List.any_cons]
          rw [eqv_py 59 60 d a h2.1 o1, ih h2.2]
      refine ⟨_, _, hB.K ▸ r1.dp 60 o1, hd, shaped_of o1, hs, ?_⟩
      rw [e2]
      exact R.old _ (.bl _)
    · cases e
  | _ => simp [inTD] at e
end
end Dn

set_option Elab.async false
set_option linter.all false
set_option maxRecDepth 100000
set_option maxHeartbeats 2000000
/-! Dn: d.pop(k), dict(pairs): dicts with tuple keys. -/
namespace Dn
open PySem PySem.Spec L2 PyProof.Rows
section
variable {X : Cx} {B : Bs} {W : WX}
theorem EntXs.del {m : List Addr} {F : Hp} (k : NestedKey) : ∀ {es : List Ent} {kvs : List (NestedKey × Val)}, EntXs B m F es kvs → EntXs B m F (withoutH es k) (delT kvs k)
  | _, _, .nil => .nil
  | _, _, .cons (k := k') h g r s t => by
    have ih := EntXs.del k t
    unfold withoutH delT at ih ⊢
    rw [List.filter_cons, List.filter_cons]
    by_cases e : k' = k
    · rw [if_neg (by simp [e]), if_neg (by simp [e])]; exact ih
    · rw [if_pos (by simp [e]), if_pos (by simp [e])]; exact .cons h g r s ih
def rPopN (B : Bs) : V → List V → Hp → VK → Prop := fun x xs H Q => ∃ a ob es kvs m F q k q' u v, x = .ref a ∧ xs = [.ref q] ∧ H a = some (dN B.P B.w a ob es) ∧ Same F H ∧ EntXs B m F es kvs ∧ Rel B H (.ref q) (ofNK k) ∧ k.depth ≤ 8 ∧
  atKey es k = some (q', u) ∧ RelV v u ∧ ∀ ob', Q v (upd H a (dN B.P B.w a ob' (withoutH es k)))
theorem mt_popN (hB : BX B X) (hu : X.A.units + 100 < cLine) : MtR X "dict.pop" (rPopN B) := by
  intro pins s σ H x xs v us Q I rx rv h
  obtain ⟨a, ob, es, kvs, m, F, q, k, q', u, w, rfl, rfl, ha, f, he, hk, hd, hp, rw', hq⟩ := h
  cases rx
  obtain ⟨u1, rfl, ru⟩ := rv.one
  cases ru
  have hk2 : ∀ x ∈ es, Rel B H (.ref x.2.1) (ofNK x.1) ∧ x.1.depth ≤ 8 := fun x hx => let ⟨p, r⟩ := he.keys x hx; ⟨p.mono f, r⟩
  obtain ⟨d1, d2, d3⟩ := dN_at hB I ha hk2
  have hroom : (nestedKind X.prog X.w).room X.A.in1 := by show X.A.units + 1 + 8 < cLine; omega
  refine call_pop_heap (more := []) (.inl rfl) (PySem.F.args_dict_pop_2 _ _) hroom (key_is hB I hk hd) d2 d1 hp (fun h' dd' hs => ?_) d3
  have hz : (withoutH es k).length ≤ sizeLine := by have := withoutH_length es k; omega
  obtain ⟨ob', hok⟩ := dN_ok (H := upd H a (.lst [])) (B := B) d2 hz dd' hB
  have he' : ∃ z, h'.get? a = some z := hok.2.1
  exact ⟨w, _, d_write I (by rw [ha]; exact True.intro) hs he' hok, rw', hq ob'⟩
def kPopN (x : Val) (xs : List Val) (S : Sto) : Out Val := match x, xs with
  | .r n, [y] => match S[n]? with
    | some (.dct kvs) => match (asD S y).bind keyT with
      | some k => match getT kvs k with
        | some v => .ok v (S.set n (.dct (delT kvs k)))
        | none => .bad
      | none => .bad
    | _ => .bad
  | _, _ => .bad
theorem p_popN : PrimM B W (rPopN B) kPopN := by
  intro Hk σ m F S H v x vs xs Q R r rs p
  unfold kPopN at p
  cases r with
  | d _ => exact False.elim p
  | r hn =>
    rename_i n a
    cases rs with
    | nil => exact False.elim p
    | cons r1 rs =>
      cases rs with
      | cons _ _ => exact False.elim p
      | nil =>
        dsimp only at p
        split at p
        · rename_i kvs e
          obtain ⟨h0, ob, es, h1, h2⟩ := R.cell n a _ hn e
          split at p
          · rename_i k hk
            obtain ⟨b, hb, hk⟩ := Option.bind_eq_some_iff.mp hk
            obtain ⟨q, rfl, h3, h4⟩ := keyT_of hk ((look R r1 hb).rel R.froz)
            split at p
            · rename_i val hv
              obtain ⟨q', u, w, e1, e2, e3⟩ := (h2.get (k := k)).1 val hv
              refine ⟨a, ob, es, kvs, m, F, q, k, q', u, w, rfl, rfl, h1, R.froz, h2, h3, h4, e1, e2, fun ob' => ?_⟩
              obtain ⟨R', G⟩ := R.write (c := .dct kvs) (c' := .dct (delT kvs k)) (o := dN B.P B.w a ob' (withoutH es k)) hn h0 ⟨h0, _, _, upd_same, h2.del k⟩ dN_nct
              exact p _ _ m F R' G (e3.grow G)
            · exact False.elim p
          · exact False.elim p
        · exact False.elim p
/-! ### dict(pairs) -/
def pairK : D → Option (NestedKey × D)
  | .tup [k, v] => (keyT k).map fun nk => (nk, v)
  | _ => none
def mergeT (kvs : List (NestedKey × D)) : List (NestedKey × D) := kvs.foldl (fun acc x => setT acc x.1 x.2) []
theorem Ents.map {F : Hp} {k : NestedKey} {u : Value} {v : V} {x : D} (ru : RelV v u) (rx : Rel B F v x) : ∀ {es : List Ent} {kvs : List (NestedKey × D)}, Ents B F es kvs → Ents B F (es.map (putAt k u)) (kvs.map fun kv => if kv.1 = k then (kv.1, x) else kv)
  | _, _, .nil => .nil
  | _, _, .cons (k := k') (q := q') (u := u') (v := v') (d := d') h1 h2 h3 h4 t => by
    rw [List.map_cons, List.map_cons]
    unfold putAt
    by_cases e : k' = k
    · simp only [e, if_true]
      subst e
      exact .cons h1 h2 ru rx (Ents.map ru rx t)
    · simp only [e, if_false]
      exact .cons h1 h2 h3 h4 (Ents.map ru rx t)
theorem Ents.append {F : Hp} : ∀ {es es2 : List Ent} {kvs kvs2 : List (NestedKey × D)}, Ents B F es kvs → Ents B F es2 kvs2 → Ents B F (es ++ es2) (kvs ++ kvs2)
  | _, _, _, _, .nil, s => s
  | _, _, _, _, .cons h1 h2 h3 h4 t, s => .cons h1 h2 h3 h4 (Ents.append t s)
theorem Ents.put {F : Hp} {k : NestedKey} {q : Addr} {u : Value} {v : V} {x : D} {es : List Ent} {kvs : List (NestedKey × D)} (h : Ents B F es kvs) (rk : Rel B F (.ref q) (ofNK k)) (hd : k.depth ≤ 8) (ru : RelV v u) (rx : Rel B F v x) : Ents B F (storedH es k q u) (setT kvs k x) := by
  unfold storedH setT
  have hm : (atKey es k).isSome = (kvs.any fun kv => decide (kv.1 = k)) := by
    rw [any_get]
    obtain ⟨h1, h2⟩ := h.get (k := k)
    cases e : getT kvs k with
    | none => rw [h2 e]; rfl
    | some d => obtain ⟨q', u', v', e1, _⟩ := h1 d e; rw [e1]; rfl
  rw [hm]
  split
  · exact h.map ru rx
  · exact h.append (.cons rk hd ru rx .nil)
theorem Ents.putAll {F : Hp} : ∀ {ps : List Ent} {kvs : List (NestedKey × D)} {es : List Ent} {acc : List (NestedKey × D)}, Ents B F ps kvs → Ents B F es acc → Ents B F (storedAllH es ps) (kvs.foldl (fun acc x => setT acc x.1 x.2) acc)
  | _, _, _, _, .nil, s => s
  | _, _, _, _, .cons h1 h2 h3 h4 t, s => by
    unfold storedAllH
    rw [List.foldl_cons, List.foldl_cons]
    exact Ents.putAll t (s.put h1 h2 h3 h4)
theorem Ents.mono2 {F F' : Hp} (e : Same F F') {es : List Ent} {kvs : List (NestedKey × D)} (h : Ents B F es kvs) : Ents B F' es kvs := h.mono e
def rDictP (B : Bs) : List V → Hp → VK → Prop := fun xs H Q => ∃ a vs ds kvs F, xs = [.ref a] ∧ Same F H ∧ Rd H a (.lst vs) ∧ Rels B F vs ds ∧ ds.mapM pairK = some kvs ∧ ∀ p ob es, H p = none → Ents B F es (mergeT kvs) → Q (.ref p) (upd H p (dN B.P B.w p ob es))
theorem pairs_at {pins : List (Addr × Obj)} {σ : L2.St} {F H : Hp} {s : Shared} (hB : BX B X) (f : Same F H) (I : Inv X pins σ H s) : ∀ {ds : List D} {xs : List V} {kvs : List (NestedKey × D)}, Rels B F xs ds → ds.mapM pairK = some kvs →
    ∃ (Ts : List Addr) (ps : List Ent), xs = Ts.map V.ref ∧ Ents B F ps kvs ∧ Ts.length = ps.length ∧ ∀ (j : Nat) (p : Ent), ps[j]? = some p → ∃ T, Ts[j]? = some T ∧ IsTup s.heap T #[.ref p.2.1, p.2.2]
  | [], _, _, .nil, e => by
    cases e
    exact ⟨[], [], rfl, .nil, rfl, fun j p h => by simp at h⟩
  | d :: ds, _, kvs, .cons (v := v) (vs := vs) r rs, e => by
    rw [List.mapM_cons] at e
    obtain ⟨kv, hkv, e⟩ := Option.bind_eq_some_iff.mp e
    obtain ⟨kvs', hkvs, e⟩ := Option.bind_eq_some_iff.mp e
    cases e
    obtain ⟨Ts, ps, rfl, he, hl, hp⟩ := pairs_at hB f I rs hkvs
    unfold pairK at hkv
    split at hkv
    · rename_i kd vd
      obtain ⟨nk, hk, rfl⟩ := Option.map_eq_some_iff.mp hkv
      cases r with
      | tup q rr =>
        rename_i T ws
        cases rr with
        | cons r1 rr =>
          cases rr with
          | cons r2 rr =>
            cases rr
            obtain ⟨b, rfl, h3, h4⟩ := keyT_of hk r1
            obtain ⟨its, rv, ht, _⟩ := I.tuple (hB.K ▸ SqT.same f q)
            obtain ⟨u1, u2, rfl, ru1, ru2⟩ := rv.two
            cases ru1
            refine ⟨T :: Ts, (nk, b, u2) :: ps, rfl, .cons h3 h4 ru2 r2 he, by simp [hl], fun j p hj => ?_⟩
            cases j with
            | zero =>
              simp only [List.getElem?_cons_zero, Option.some.injEq] at hj
              subst hj
              exact ⟨T, rfl, ht⟩
            | succ j => exact hp j p (by simpa using hj)
    · cases hkv
theorem call_dictN (hc : X.calm = true) (hB : BX B X) (hu : X.A.units + 100 < cLine) : CallR X (.type "dict") (rDictP B) := by
  intro pins s σ H xs us Q I r h
  obtain ⟨a, vs, ds, kvs, F, rfl, f, ql, rr, hk, q⟩ := h
  obtain ⟨u, rfl, rx⟩ := vals1 r
  cases rx
  obtain ⟨Ts, ps, rfl, he, hl, hp⟩ := pairs_at hB f I rr hk
  obtain ⟨its, rv, pl, hz⟩ := I.list (.inl ql)
  have ei := refs_at rv
  subst ei
  rw [List.length_map] at hz
  have hkeys : ∀ x ∈ ps, (nestedKind X.prog X.w).is s.heap x.1 x.2.1 := fun x hx => key_is hB I ((he.mono f).keys x hx).1 ((he.mono f).keys x hx).2
  have P := PairArg.list (prog := X.prog) (w := X.w) a (Ts.map Value.ref).toArray (fun j => Ts.getD j 0) (ps.map fun p => (Value.ref p.2.1, p.2.2))
  rw [List.length_map] at P
  refine call_dict_pairsH (knd := nestedKind X.prog X.w) (ps := ps) P (I.ok.hd hc) (by show X.A.units + 1 + 1 + 8 < cLine; omega) ⟨pl, ⟨by simp [hl], fun j k v hj => ?_⟩⟩ ⟨rfl, fun i key v hi => ?_⟩ (fun h' hst x hx => ?_) (by rw [← hl]; exact hz) fun h' tk hd' hk' => ?_
  · rw [List.getElem?_map] at hj
    obtain ⟨p, hp', e⟩ := Option.map_eq_some_iff.mp hj
    cases e
    obtain ⟨T, hT, ht⟩ := hp j p hp'
    refine ⟨by simp [hT], .inl ?_⟩
    show IsTup s.heap (Ts.getD j 0) _
    rw [List.getD_eq_getElem?_getD, hT]
    exact ht
  · have hi' : (ps.map fun p => (Value.ref p.2.1, p.2.2))[i]? = some (key, v) := hi
    rw [List.getElem?_map] at hi'
    obtain ⟨p, hp', e⟩ := Option.map_eq_some_iff.mp hi'
    cases e
    exact ⟨p.1, p.2.1, hp', rfl⟩
  · exact nestedKind_stays.stays (fun b o vs n hb _ => hst b o (Nat.ne_of_lt (Heap.lt_size hb)) (by simp) hb) (hkeys x hx)
  · have hm : (s.heap.objs.size == sysModules) = false := beq_eq_false_iff_ne.mpr (Nat.ne_of_gt I.big)
    have hes := he.putAll (es := []) (acc := []) .nil
    have hlen : (storedAllH [] ps).length ≤ sizeLine := by
      have := storedAllH_length ps ([] : List Ent)
      rw [List.length_nil, Nat.zero_add, ← hl] at this
      exact Nat.le_trans this hz
    obtain ⟨ob, hok⟩ := dN_ok (H := upd H s.heap.objs.size (.lst [])) (B := B) hm hlen hd' hB
    exact ⟨.ref s.heap.objs.size, _, I.laid (t' := tk) (fun b o e => hk' b o (by simp) e) (Nat.le_refl _) hok, rfl, q _ ob _ (I.hok.fresh (Nat.le_refl _)) hes⟩
def dictD : D → Option D
  | .lst ds => (ds.mapM pairK).map fun kvs => .dct (mergeT kvs)
  | _ => none
theorem p_dictN : PrimA B W (rDictP B) (rdA1 dictD) := pA1 fun F H v a z Q f l e R => by
  cases l with
  | lst ql rr =>
    simp only [dictD] at e
    obtain ⟨kvs, hk, rfl⟩ := Option.map_eq_some_iff.mp e
    rename_i p xs ds
    refine ⟨p, xs, ds, kvs, F, rfl, f, ql, rr, hk, fun q ob es hq he => ?_⟩
    exact R.new q _ hq (.dct upd_same (he.mono (same_own (f.free hq)))) (dN_nct).1
  | _ => cases e
end
end Dn

set_option Elab.async false
set_option linter.all false
set_option maxRecDepth 100000
set_option maxHeartbeats 2000000
/-! Dn: l.count(x) of a list of data. -/
namespace Dn
open PySem L2 PyProof.Rows PySem.Spec

def rCountD (K : PySem.W.Frag) : V → List V → Hp → VK → Prop := fun x xs H Q => ∃ (a : Addr) (y : V) (d : PyData) (ds : List PyData), x = V.ref a ∧ xs = [y] ∧ Dp K H (V.ref a) (.list ds) ∧ Dp K H y d ∧
  SeqAt.shaped (.list ds) = true ∧ SeqAt.shaped d = true ∧ Q (.int ((ds.countP fun z => PyData.eqv z d : Nat) : Int)) H
section
variable {X : Cx}
theorem mt_countD (hu : X.A.units + 65 < cLine) : MtR X "list.count" (rCountD X.K) := by
  intro pins s σ H x xs v us Q I rx rxs h
  obtain ⟨a, y, d, ds, rfl, rfl, hl, hy, sl, sd, q⟩ := h
  cases rx
  cases rxs with
  | cons ry rt =>
    rename_i uy ut
    cases rt
    obtain ⟨bs, r1⟩ := Dp.reads I d y uy hy ry
    have hxs : PyData.canLayAll0 ds = true := SeqAt.canLay_of_shaped sl
    have hroom : X.A.units + 1 + min (PyData.depthAll ds) d.depth < cLine := room_in_shaped sd hu
    cases hl with
    | lst hs ha =>
      obtain ⟨its, rv, ⟨⟨cls, dd, data, sls⟩, n, ho, hc, hdn, hdt⟩, hlen⟩ := I.list hs
      simp only at hc hdt
      subst hc hdt
      obtain ⟨as, h4⟩ := Dp.readsAll I ds _ its ha rv
      have hmap : its.map (SeqAt.readOf s.heap) = ds := SeqAt.readsAll_map ds its as hxs h4
      refine call_meets PySem.F.slot_list_count ⟨_, ho, rfl⟩ PySem.F.entry_list_count (PySem.F.args_list_count_2 _ _)
        (SeqAt.list_countAt a its.toArray n dd sls uy (fun u => PyData.eqv (SeqAt.readOf s.heap u) d)) ⟨ho, SeqAt.items_eqAt (vs := its.toArray) (show ReadsAll s.heap its.toArray.toList ds as from h4) r1 hxs (SeqAt.canLay_of_shaped sd) hroom, ?_⟩
      refine ⟨.int _, H, I.tok _, ⟨_, rfl⟩, ?_⟩
      have : its.toArray.toList.countP (fun u => PyData.eqv (SeqAt.readOf s.heap u) d) = ds.countP fun z => PyData.eqv z d := by
        rw [← hmap, List.countP_map]; rfl
      rw [this]
      exact q
end
def countD (a b : D) : Option D := match a with
  | .lst ds => if okD 60 (.lst ds) && okD 60 b then some (.int ((ds.countP fun z => eqv z b : Nat) : Int)) else none
  | _ => none
def kCount (x : Val) (xs : List Val) (S : Sto) : Out Val := match xs with
  | [y] => Out.of ((asD S x).bind fun a => (asD S y).bind fun b => (countD a b).map .d) S
  | _ => .bad
section
variable {X : Cx} {B : Bs} {W : WX}
theorem p_countL (hB : BX B X) : PrimM B W (rCountD X.K) kCount := by
  intro Hk σ m F S H v x vs xs Q R rx rxs p
  unfold kCount at p
  cases rxs with
  | nil => exact False.elim p
  | cons ry rr =>
    cases rr with
    | cons _ _ => exact False.elim p
    | nil =>
      obtain ⟨z, e, p⟩ := of_post p
      obtain ⟨a, ha, e⟩ := Option.bind_eq_some_iff.mp e
      obtain ⟨b, hb, e⟩ := Option.bind_eq_some_iff.mp e
      obtain ⟨c, hc, rfl⟩ := Option.map_eq_some_iff.mp e
      have l1 := look R rx ha
      have l2 := look R ry hb
      cases a with
      | lst ds =>
        simp only [countD] at hc
        split at hc
        · rename_i hz
          cases hc
          simp only [Bool.and_eq_true] at hz
          have hds : okDs 59 ds = true := by have := hz.1; rw [okD] at this; exact this
          rw [okDs_all, List.all_eq_true] at hds
          have d1 := hB.K ▸ (l1.rel R.froz).dp 60 hz.1
          have s1 := shaped_of hz.1
          rw [toPy, toPys_map] at d1 s1
          have l1' := l1
          cases l1' with
          | lst q r =>
            refine ⟨_, _, toPy b, _, rfl, rfl, d1, hB.K ▸ (l2.rel R.froz).dp 60 hz.2, s1, shaped_of hz.2, ?_⟩
            have : (ds.map toPy).countP (fun z => PyData.eqv z (toPy b)) = ds.countP fun z => eqv z b := by
              rw [List.countP_map]
              refine List.countP_congr fun z hzm => ?_
              rw [Function.comp_apply, eqv_py 59 60 z b (hds z hzm) hz.2]
            rw [this]
            exact p (.int _) H m F R (Grow.refl _ _ _) (.d (.int _))
        · cases hc
      | _ => cases hc
end
end Dn

set_option Elab.async false
set_option linter.all false
set_option maxRecDepth 100000
set_option maxHeartbeats 2000000
/-! Dn: `for x in d if c else []`: a dict's keys, or a list. -/
namespace Dn
open PySem PySem.Spec L2 PyProof.Rows

def iMixT (P : Program) (w : World) (K : PySem.W.Frag) (te : TE) : TI := fun σ H R => te σ H fun x H1 => (∃ a o es, x = .ref a ∧ H1 a = some (dN P w a o es) ∧ R (ItN P w a o es) H1) ∨ ∃ a, x = .ref a ∧ (∃ xs, SqL K H1 a xs) ∧ R (Itl K a) H1
section
variable {X : Cx} {B : Bs} {W : WX}
theorem pi_mix {tg e : Expr} {te : TE} (he : PE X e te) : PI X tg e (iMixT X.prog X.w X.K te) := by
  refine ⟨fun pins s σ H R I h => thn (he.run pins s σ H _ I h) fun v s1 ⟨x, H1, J, r1, q1⟩ => ?_⟩
  rcases q1 with ⟨a, o, es, ex, ha, q⟩ | ⟨a, rfl, ⟨xs, hq⟩, q⟩
  · subst ex
    obtain rfl : v = Value.ref a := r1
    obtain ⟨⟨g, lo, hz, es', ep, hx, hd, hl, _⟩, _⟩ := J.hok a _ ha
    refine iter_keys lo g hx hd ⟨s1.heap.objs.size, [s1.heap.objs.size], _, _, H1, rfl, J.kept (t' := s1.toks) fun b o e => Heap.get?_push_of_some _ e, turn_dN _ (Nat.ne_of_lt (Heap.lt_size g)) hd hl, ⟨_, Heap.get?_push_size _ rfl, rfl, rfl⟩, fun b hb => ?_, q⟩
    have e : b = s1.heap.objs.size := by simpa using hb
    rw [e]
    exact J.fpOk (Nat.le_refl _) (J.hok.fresh (Nat.le_refl _))
  · cases r1
    obtain ⟨its, rv, p, hz⟩ := J.list hq
    refine wpAny_pyIter_list p.isList ⟨s1.heap.objs.size, [s1.heap.objs.size], _, _, H1, rfl, J.kept (t' := s1.toks) fun b o e => Heap.get?_push_of_some _ e, turn_list a _, ⟨_, Heap.get?_push_size _ rfl, rfl, rfl⟩, fun b hb => ?_, q⟩
    have e : b = s1.heap.objs.size := by simpa using hb
    rw [e]
    exact J.fpOk (Nat.le_refl _) (J.hok.fresh (Nat.le_refl _))
def iMix (f : DE) : DI := fun sl S => (f sl S).bind fun x S1 => (toD x S1).bind fun d S2 => match d with
  | .dct kvs => .ok (fun _ => some (kvs.map fun kv => Val.d (ofNK kv.1))) S2
  | .lst ds => .ok (fun _ => some (ds.map Val.d)) S2
  | _ => .bad
theorem di_mix {tg e : Expr} {f : DE} (hB : BX B X) (he : PE X e (denE B W f)) : PI X tg e (denI B W (iMix f)) :=
  PI_weak (pi_mix he) fun σ H R ⟨Hk, m, F, sl, S, R1, R2, q⟩ => by
    refine ⟨Hk, m, F, sl, S, R1, R2, ?_⟩
    unfold iMix at q
    cases e0 : f sl S with
    | exc c S' => rw [e0] at q; exact q
    | bad => rw [e0] at q; exact q
    | ok x S1 =>
      rw [e0, Out.bind_ok] at q
      intro v H' m' F' R3 G r
      cases e1 : toD x S1 with
      | exc c S2 => exact absurd e1 (toD_noexc x S1 c S2)
      | bad => rw [e1] at q; exact False.elim q
      | ok d S2 =>
        rw [e1, Out.bind_ok] at q
        obtain ⟨F2, R4, G2, r2⟩ := keepD R3 r e1
        cases d with
        | dct kvs =>
          cases r2 with
          | dct hF he => exact .inl ⟨_, _, _, rfl, by rw [← hB.P, ← hB.w]; exact R4.froz _ _ hF, q _ m' F2 H' R4 (G.trans G2) (ok_dict hB hF he)⟩
        | lst ds =>
          have rx : RelX B m' F2 v (.d (.lst ds)) := .d r2
          obtain ⟨a, vs, rfl, h1, h2⟩ := lst_items R4 rx (show lstItems S2 (.d (.lst ds)) = some (ds.map Val.d) from rfl)
          exact .inr ⟨a, rfl, ⟨vs, .inl h1⟩, q _ m' F2 H' R4 (G.trans G2) (ok_lst hB rx)⟩
        | _ => exact False.elim q
end
end Dn

set_option Elab.async false
set_option linter.all false
set_option maxRecDepth 100000
set_option maxHeartbeats 2000000
/-! Dn: copies of dicts, pop, setdefault, clear, lists compared with none, zip, enumerate of a cell. -/
namespace Dn
open PySem PySem.Spec L2 PyProof.Rows
section
variable {X : Cx} {B : Bs} {W : WX}
/-! ### x == [], x != [] -/
def rEqL0 (K : PySem.W.Frag) (neg : Bool) : R2 := fun x y H Q => ∃ a b xs, x = .ref a ∧ y = .ref b ∧ SqL K H a xs ∧ SqL K H b [] ∧ Q (.bl (if neg then !(xs.length == 0) else xs.length == 0)) H
theorem op_eqL0 (hu : X.A.units + 100 < cLine) : OpR X (compareOp .Eq) (rEqL0 X.K false) := by
  intro pins s σ H x y v u Q I rx ry h
  obtain ⟨a, b, xs, rfl, rfl, h1, h2, q⟩ := h
  cases rx
  cases ry
  obtain ⟨its, rv, p1, _⟩ := I.list h1
  obtain ⟨its2, rv2, p2, _⟩ := I.list h2
  have l1 := rv.length
  have l2 := rv2.length
  by_cases hx : xs.length = 0
  · have e1 : its.toArray.size = 0 := by rw [List.size_toArray]; omega
    have e2 : its2.toArray.size = 0 := by rw [List.size_toArray]; simpa using l2.symm
    have := PySem.SeqAt.RcAt.lists (A := X.A) (s := s) (e := fun _ => true) p1.isList p2.isList (by rw [e1, e2]) (by omega) (fun j h1 => by omega)
    refine this _ _ _ _ ⟨.bl true, H, I, ?_, ?_⟩
    · rw [e1]; rfl
    · have : Q (.bl (xs.length == 0)) H := q
      rw [hx] at this; exact this
  · have e1 : (its.toArray.size != its2.toArray.size) = true := by
      rw [List.size_toArray, List.size_toArray]
      have : its2.length = 0 := by simpa using l2.symm
      rw [this]
      simp
      intro h; rw [h] at l1; exact hx (by simpa using l1)
    refine PySem.SeqAt.RcAt.lists_lengths (A := X.A) (s := s) p1.isList p2.isList e1 (by omega) _ _ _ _ ⟨.bl false, H, I, rfl, ?_⟩
    have : Q (.bl (xs.length == 0)) H := q
    rw [beq_eq_false_iff_ne.mpr hx] at this; exact this
theorem op_neL0 (hu : X.A.units + 100 < cLine) : OpR X (compareOp .NotEq) (rEqL0 X.K true) := by
  intro pins s σ H x y v u Q I rx ry h
  obtain ⟨a, b, xs, rfl, rfl, h1, h2, q⟩ := h
  cases rx
  cases ry
  obtain ⟨its, rv, p1, _⟩ := I.list h1
  obtain ⟨its2, rv2, p2, _⟩ := I.list h2
  have l1 := rv.length
  have l2 := rv2.length
  by_cases hx : xs.length = 0
  · have e1 : its.toArray.size = 0 := by rw [List.size_toArray]; omega
    have e2 : its2.toArray.size = 0 := by rw [List.size_toArray]; simpa using l2.symm
    have := PySem.SeqAt.RcNeAt.lists (A := X.A) (s := s) (e := fun _ => true) p1.isList p2.isList (by rw [e1, e2]) (by omega) (fun j h1 => by omega)
    refine this _ _ _ _ ⟨.bl false, H, I, ?_, ?_⟩
    · rw [e1]; rfl
    · have : Q (.bl (!(xs.length == 0))) H := q
      rw [hx] at this; exact this
  · have e1 : (its.toArray.size != its2.toArray.size) = true := by
      rw [List.size_toArray, List.size_toArray]
      have : its2.length = 0 := by simpa using l2.symm
      rw [this]
      simp
      intro h; rw [h] at l1; exact hx (by simpa using l1)
    refine PySem.SeqAt.RcNeAt.lists_lengths (A := X.A) (s := s) p1.isList p2.isList e1 (by omega) _ _ _ _ ⟨.bl true, H, I, rfl, ?_⟩
    have : Q (.bl (!(xs.length == 0))) H := q
    rw [beq_eq_false_iff_ne.mpr hx] at this; exact this
def kEqL0 (neg : Bool) (x y : Val) (S : Sto) : Out Val := match lstItems S x, lstItems S y with
  | some xs, some [] => .ok (.d (.bl (if neg then !(xs.length == 0) else xs.length == 0))) S
  | _, _ => .bad
theorem p_eqL0 (hB : BX B X) (neg : Bool) : Prim2 B W (rEqL0 X.K neg) (kEqL0 neg) := by
  intro Hk σ m F S H v w x y Q R rx ry p
  unfold kEqL0 at p
  split at p
  · rename_i xs e1 e2
    obtain ⟨a, vs, rfl, h1, h2⟩ := lst_items R rx e1
    obtain ⟨b, us, rfl, h3, h4⟩ := lst_items R ry e2
    cases h4
    refine ⟨a, b, vs, rfl, rfl, .inl h1, .inl h3, ?_⟩
    rw [h2.len]
    exact p _ H m F R (Grow.refl _ _ _) (.d (.bl _))
  · exact False.elim p
/-! ### dict(d): keys ints and texts -/
def kDictC (xs : List Val) (S : Sto) : Out Val := match xs with
    | [.r n] => (match S[n]? with
      | some (.dck kvs) => .ok (.r S.length) (S ++ [Cell.dck kvs])
      | _ => .bad)
    | _ => .bad
theorem p_dictC : PrimA B W (fun xs H Q => ∃ (a : Addr) (kvs : List (Key × V)), xs = [.ref a] ∧ Rd H a (.dK kvs) ∧ ∀ p, H p = none → Q (.ref p) (upd H p (.dK kvs))) kDictC := by
  intro Hk σ m F S H vs xs Q R rs p
  unfold kDictC at p
  cases rs with
  | nil => exact False.elim p
  | cons r1 rs =>
    cases rs with
    | cons _ _ =>
      split at p
      · rename_i e; cases e
      · exact False.elim p
    | nil =>
      cases r1 with
      | d _ => exact False.elim p
      | r hn =>
        rename_i n a
        dsimp only at p
        split at p
        · rename_i kvs e
          obtain ⟨h0, us, h1, h2⟩ := R.cell n a _ hn e
          refine ⟨a, us, rfl, .inl h1, fun q hq => ?_⟩
          obtain ⟨R', G⟩ := R.newC (o := .dK us) (c := .dck kvs) hq ⟨R.none hq, us, upd_same, h2.mono ⟨[q], rfl⟩ (fun _ _ h => h)⟩
          exact p _ _ _ F R' G (.r (app_last R.len))
        · exact False.elim p
/-! ### d.pop(k): keys ints and texts too -/
def rPopK : V → List V → Hp → VK → Prop := fun x xs H Q => ∃ a kvs k v, x = .ref a ∧ xs = [kV k] ∧ H a = some (.dK kvs) ∧ valV kvs k = some v ∧ Q v (upd H a (.dK (dropK kvs k)))
theorem mt_popK : MtR X "dict.pop" rPopK := by
  intro pins s σ H x xs v us Q I rx rv h
  obtain ⟨a, kvs, k, w, rfl, rfl, ha, hl, hq⟩ := h
  cases rx
  obtain ⟨u1, rfl, ru⟩ := rv.one
  exact d_pop I ha ru hl (.inl rfl) fun w' s' I' rw' => ⟨w, _, I', rw', hq⟩
def kPopK (x : Val) (xs : List Val) (S : Sto) : Out Val := match x, xs with
  | .r n, [y] => match S[n]? with
    | some (.dck kvs) => match (asD S y).bind keyK with
      | some k => match getK kvs k with
        | some v => .ok v (S.set n (.dck (delK kvs k)))
        | none => .bad
      | none => .bad
    | _ => .bad
  | _, _ => .bad
theorem KvXs.getv {m : List Addr} {F : Hp} {k : Key} {z : Val} : ∀ {es : List (Key × V)} {kvs : List (Key × Val)}, KvXs B m F es kvs → getK kvs k = some z → ∃ v, valV es k = some v ∧ RelX B m F v z
  | _, _, .nil, e => by simp [getK] at e
  | _, _, .cons (k := k') (v := v') (x := x') (kvs := kvs') r t, e => by
    by_cases h : k' = k
    · simp [getK, h] at e
      subst e
      exact ⟨v', by simp [valV, h], r⟩
    · have e' : getK kvs' k = some z := by simpa [getK, h] using e
      obtain ⟨v, e1, e2⟩ := KvXs.getv t e'
      exact ⟨v, by simpa [valV, h] using e1, e2⟩
theorem KvXs.del {m : List Addr} {F : Hp} (k : Key) : ∀ {es : List (Key × V)} {kvs : List (Key × Val)}, KvXs B m F es kvs → KvXs B m F (dropK es k) (delK kvs k)
  | _, _, .nil => .nil
  | _, _, .cons (k := k') r t => by
    have ih := KvXs.del k t
    unfold dropK delK at ih ⊢
    rw [List.filter_cons, List.filter_cons]
    by_cases e : k' = k
    · rw [if_neg (by simp [e]), if_neg (by simp [e])]; exact ih
    · rw [if_pos (by simp [e]), if_pos (by simp [e])]; exact .cons r ih
theorem p_popK : PrimM B W rPopK kPopK := by
  intro Hk σ m F S H v x vs xs Q R r rs p
  unfold kPopK at p
  cases r with
  | d _ => exact False.elim p
  | r hn =>
    rename_i n a
    cases rs with
    | nil => exact False.elim p
    | cons r1 rs =>
      cases rs with
      | cons _ _ => exact False.elim p
      | nil =>
        dsimp only at p
        split at p
        · rename_i kvs e
          obtain ⟨h0, us, h1, h2⟩ := R.cell n a _ hn e
          split at p
          · rename_i k hk
            obtain ⟨b, hb, hk⟩ := Option.bind_eq_some_iff.mp hk
            have := look_K hk (look R r1 hb)
            subst this
            split at p
            · rename_i val hv
              obtain ⟨w, e1, e2⟩ := h2.getv hv
              refine ⟨a, us, k, w, rfl, rfl, h1, e1, ?_⟩
              obtain ⟨R', G⟩ := R.write (c := .dck kvs) (c' := .dck (delK kvs k)) (o := .dK (dropK us k)) hn h0 ⟨h0, _, upd_same, h2.del k⟩
              exact p _ _ m F R' G (e2.grow G)
            · exact False.elim p
          · exact False.elim p
        · exact False.elim p
/-! ### d.setdefault(k, v): tuple keys -/
def rSetdN (B : Bs) : V → List V → Hp → VK → Prop := fun x xs H Q => ∃ a ob es kvs m F q k z, x = .ref a ∧ xs = [.ref q, z] ∧ H a = some (dN B.P B.w a ob es) ∧ Same F H ∧ EntXs B m F es kvs ∧ Rel B H (.ref q) (ofNK k) ∧ k.depth ≤ 8 ∧ kvs.length < sizeLine ∧
  (∀ q' u v, atKey es k = some (q', u) → RelV v u → RelX B m F v ((getT kvs k).getD (.d .non)) → Q v H) ∧ (atKey es k = none → ∀ ob' u, RelV z u → Q z (upd H a (dN B.P B.w a ob' (storedH es k q u))))
theorem mt_setdN (hB : BX B X) (hu : X.A.units + 100 < cLine) : MtR X "dict.setdefault" (rSetdN B) := by
  intro pins s σ H x xs v us Q I rx rv h
  obtain ⟨a, ob, es, kvs, m, F, q, k, z, rfl, rfl, ha, f, he, hk, hd, hl, hq1, hq2⟩ := h
  cases rx
  cases rv with
  | cons r1 rr =>
    cases rr with
    | cons r2 rr =>
      cases rr
      cases r1
      rename_i u2
      have hk2 : ∀ x ∈ es, Rel B H (.ref x.2.1) (ofNK x.1) ∧ x.1.depth ≤ 8 := fun x hx => let ⟨p, r⟩ := he.keys x hx; ⟨p.mono f, r⟩
      obtain ⟨d1, d2, d3⟩ := dN_at hB I ha hk2
      have hroom : (nestedKind X.prog X.w).room X.A.in1 := by show X.A.units + 1 + 8 < cLine; omega
      refine call_setdefault_heap hroom (key_is hB I hk hd) d2 d1 (fun p hp => ?_) (fun hn h' dd' hs => ?_) d3
      · have hg := he.get (k := k)
        cases hgt : getT kvs k with
        | none => rw [hg.2 hgt] at hp; cases hp
        | some d =>
          obtain ⟨q', u, w, e1, e2, e3⟩ := hg.1 d hgt
          rw [e1] at hp; cases hp
          exact ⟨w, H, I.tok _, e2, hq1 q' u w e1 e2 (by rw [hgt]; exact e3)⟩
      · have hz : (storedH es k q u2).length ≤ sizeLine := by have := storedH_length es k q u2; have := he.len; omega
        obtain ⟨ob', hok⟩ := dN_ok (H := upd H a (.lst [])) (B := B) d2 hz dd' hB
        have he' : ∃ z, h'.get? a = some z := hok.2.1
        exact ⟨z, _, d_write I (by rw [ha]; exact True.intro) hs he' hok, r2, hq2 hn ob' u2 r2⟩
def kSetdN (x : Val) (xs : List Val) (S : Sto) : Out Val := match x, xs with
  | .r n, [y, z] => match S[n]? with
    | some (.dct kvs) => if kvs.length < 16777216 then (match y with
      | .d dy => (match keyT dy with
        | some k => (match getT kvs k with
          | some v => .ok v S
          | none => .ok z (S.set n (.dct (setT kvs k z))))
        | none => .bad)
      | _ => .bad) else .bad
    | _ => .bad
  | _, _ => .bad
theorem p_setdN : PrimM B W (rSetdN B) kSetdN := by
  intro Hk σ m F S H v x vs xs Q R r rs p
  unfold kSetdN at p
  cases r with
  | d _ => exact False.elim p
  | r hn =>
    rename_i n a
    cases rs with
    | nil => exact False.elim p
    | cons r1 rs =>
      cases rs with
      | nil => exact False.elim p
      | cons r2 rs =>
        cases rs with
        | cons _ _ => exact False.elim p
        | nil =>
          rename_i v1 y v2 z
          dsimp only at p
          split at p
          · rename_i kvs e
            obtain ⟨h0, ob, es, h1, h2⟩ := R.cell n a _ hn e
            split at p
            · rename_i hl
              cases r1 with
              | r _ => exact False.elim p
              | d r1 =>
                rename_i dy
                dsimp only at p
                split at p
                · rename_i k hk
                  obtain ⟨q, rfl, h3, h4⟩ := keyT_of hk r1
                  refine ⟨a, ob, es, kvs, m, F, q, k, v2, rfl, rfl, h1, R.froz, h2, h3.mono R.froz, h4, by rw [szl]; exact hl, fun q' u w e1 e2 e3 => ?_, fun hn' ob' u ru => ?_⟩
                  · cases hg : getT kvs k with
                    | none => rw [h2.get.2 hg] at e1; cases e1
                    | some val =>
                      rw [hg] at p e3
                      exact p _ H m F R (Grow.refl _ _ _) e3
                  · cases hg : getT kvs k with
                    | some val => obtain ⟨_, _, _, e1, _⟩ := h2.get.1 _ hg; rw [e1] at hn'; cases hn'
                    | none =>
                      rw [hg] at p
                      obtain ⟨R', G⟩ := R.write (c := .dct kvs) (c' := .dct (setT kvs k z)) (o := dN B.P B.w a ob' (storedH es k q u)) hn h0 ⟨h0, _, _, upd_same, h2.put h3 h4 ru r2⟩ dN_nct
                      exact p _ _ m F R' G (r2.grow G)
                · exact False.elim p
            · exact False.elim p
          · exact False.elim p
/-! ### xs.clear() -/
def kClear (x : Val) (xs : List Val) (S : Sto) : Out Val := match x, xs with
  | .r n, [] => match S[n]? with
    | some (.lst _) => .ok (.d .non) (S.set n (.lst []))
    | _ => .bad
  | _, _ => .bad
theorem p_clear : PrimM B W rClear kClear := by
  intro Hk σ m F S H v x vs xs Q R r rs p
  unfold kClear at p
  cases r with
  | d _ => exact False.elim p
  | r hn =>
    rename_i n a
    cases rs with
    | cons _ _ => exact False.elim p
    | nil =>
      dsimp only at p
      split at p
      · rename_i ys e
        obtain ⟨h0, us, h1, h2⟩ := R.cell n a _ hn e
        obtain ⟨R', G⟩ := R.write (c := .lst ys) (c' := .lst []) (o := .lst []) hn h0 ⟨h0, _, upd_same, .nil⟩
        exact ⟨a, us, rfl, rfl, h1, p _ _ m F R' G (.d .non)⟩
      · exact False.elim p
/-! ### zip(xs, ys): lists of data -/
def zipV : List Val → List Val → Option (List Val)
  | [], _ => some []
  | _ :: _, [] => some []
  | .d a :: xs, .d b :: ys => (zipV xs ys).map (Val.d (.tup [a, b]) :: ·)
  | _, _ => none
theorem zipV_get : ∀ {xs ys zs : List Val}, zipV xs ys = some zs → ∀ i : Nat, (∀ z, zs[i]? = some z → ∃ a b, xs[i]? = some (.d a) ∧ ys[i]? = some (.d b) ∧ z = .d (.tup [a, b])) ∧ (zs[i]? = none → xs.length ≤ i ∨ ys.length ≤ i)
  | [], ys, zs, e, i => by cases e; exact ⟨fun z h => by simp at h, fun _ => .inl (Nat.zero_le _)⟩
  | _ :: _, [], zs, e, i => by cases e; exact ⟨fun z h => by simp at h, fun _ => .inr (Nat.zero_le _)⟩
  | .d a :: xs, .d b :: ys, zs, e, i => by
    rw [zipV] at e
    obtain ⟨zs', e', rfl⟩ := Option.map_eq_some_iff.mp e
    have ih := zipV_get e'
    cases i with
    | zero => exact ⟨fun z h => by simp at h; subst h; exact ⟨a, b, rfl, rfl, rfl⟩, fun h => by simp at h⟩
    | succ i =>
      obtain ⟨h1, h2⟩ := ih i
      exact ⟨fun z h => h1 z (by simpa using h), fun h => by
        have := h2 (by simpa using h)
        simp only [List.length_cons]; omega⟩
  | .r _ :: _, .d _ :: _, zs, e, i => by cases e
  | .d _ :: _, .r _ :: _, zs, e, i => by cases e
  | .r _ :: _, .r _ :: _, zs, e, i => by cases e
def zipI (x y : Val) : Its' := fun S => match lstItems S x, lstItems S y with
  | some a, some b => zipV a b
  | _, _ => none
def iZipV (fa : DA) : DI := fun sl S => (fa sl S).bind fun xs S1 => match xs with
  | [x, y] => (match lstItems S1 x, lstItems S1 y with
    | some _, some _ => .ok (zipI x y) S1
    | _, _ => .bad)
  | _ => .bad
theorem RelX.dd {m : List Addr} {F : Hp} {v : V} {a : D} (h : RelX B m F v (.d a)) : Rel B F v a := by cases h; assumption
theorem zip_ok {m1 : List Addr} {F1 H1 : Hp} {a b : Addr} {x y : Val} (hB : BX B X) (rx : RelX B m1 F1 (.ref a) x) (ry : RelX B m1 F1 (.ref b) y) : ItOk B m1 F1 H1 (Itz X.K a b) (zipI x y) := by
  intro Hk i m F S H zs R G e
  unfold zipI at e
  split at e
  · rename_i xs ys e1 e2
    obtain ⟨a', vs, e3, h1, h2⟩ := lst_items R (rx.grow G) e1
    obtain ⟨b', us, e4, h3, h4⟩ := lst_items R (ry.grow G) e2
    cases e3; cases e4
    obtain ⟨g1, g2⟩ := zipV_get e i
    refine ⟨fun z hz => ?_, fun hz => ?_⟩
    · obtain ⟨da, db, x1, x2, rfl⟩ := g1 z hz
      obtain ⟨v, hv, rv⟩ := h2.get x1
      obtain ⟨u, hu, ru⟩ := h4.get x2
      refine ⟨⟨vs, us, v, u, .inl h1, .inl h3, hv, hu⟩, fun w H' ⟨T, x', y', e5, hT, e6, e7, e8⟩ => ?_⟩
      subst e5 e6
      have k1 := e7 vs (.inl h1)
      have k2 := e8 us (.inl h3)
      rw [hv] at k1; rw [hu] at k2
      cases k1; cases k2
      obtain ⟨R', G'⟩ := R.newF (o := .tup [v, u]) hT
      exact ⟨_, R', G', .d (.tup (SqT.of upd_same) (.cons (rv.dd.mono (same_own (R.none hT))) (.cons (ru.dd.mono (same_own (R.none hT))) .nil)))⟩
    · refine ⟨vs, us, .inl h1, .inl h3, ?_⟩
      rw [h2.len, h4.len]; exact g2 hz
  · cases e
theorem di_zip {e e2 : Expr} {fa : DA} {p pos tpos : Pos} {elts : List Expr} {kk : Nat} (hB : BX B X) (hg : Gl X "zip") (hm : X.mg "zip" = none) (ha : PA X [e, e2] (denA B W fa))
    (hs : starEach [e, e2] X.env = (false, eval e X.env) :: starEach [e2] X.env := by rfl) (hpl : (backTo pos (starEach [e2] X.env)).any (·.1) = false := by rfl) :
    PI X (.Tuple elts kk tpos) (.Call (.Name "zip" p) [e, e2] [] pos) (denI B W (iZipV fa)) :=
  PI_weak (pi_zip hg hm ha hs hpl) fun σ H R ⟨Hk, m, F, sl, S, R1, R2, q⟩ => by
    show denA B W fa σ H _
    refine ⟨Hk, m, F, sl, S, R1, R2, ?_⟩
    unfold iZipV at q
    cases e0 : fa sl S with
    | exc c S' => rw [e0] at q; exact q
    | bad => rw [e0] at q; exact q
    | ok xs S1 =>
      rw [e0, Out.bind_ok] at q
      intro vs H' m' F' R3 G r
      cases r with
      | nil => exact False.elim q
      | cons r1 rr =>
        cases rr with
        | nil => exact False.elim q
        | cons r2 rr =>
          cases rr with
          | cons _ _ => exact False.elim q
          | nil =>
            rename_i v1 x1 v2 x2
            dsimp only at q
            cases l1 : lstItems S1 x1 with
            | none => rw [l1] at q; exact False.elim q
            | some ys1 =>
              cases l2 : lstItems S1 x2 with
              | none => rw [l1, l2] at q; exact False.elim q
              | some ys2 =>
                rw [l1, l2] at q
                obtain ⟨a, us, rfl, h1, h2⟩ := lst_items R3 r1 l1
                obtain ⟨b, ws, rfl, h3, h4⟩ := lst_items R3 r2 l2
                exact ⟨a, b, us, ws, rfl, .inl h1, .inl h3, q _ m' F' H' R3 G (zip_ok hB r1 r2)⟩
/-! ### sorted(x) as a cell -/
def kSortC (xs : List Val) (S : Sto) : Out Val := match xs with
  | [x] => (match keysOf S x with
    | some ds => if sortable ds = true then .ok (.r S.length) (S ++ [Cell.lst ((sortS leD ds).map .d)]) else .bad
    | none => .bad)
  | _ => .bad
theorem p_sortC (hB : BX B X) : PrimA B W (rSortA B) kSortC := by
  intro Hk σ m F S H vs xs Q R rs p
  cases rs with
  | nil => exact False.elim p
  | cons r1 rs =>
    cases rs with
    | cons _ _ => exact False.elim p
    | nil =>
      rename_i v x
      simp only [kSortC] at p
      cases e : keysOf S x with
      | none => rw [e] at p; exact False.elim p
      | some ds =>
        rw [e] at p
        dsimp only at p
        by_cases hs : sortable ds = true
        · rw [if_pos hs] at p
          have fin : ∀ ws q, Rels B F ws (sortS leD ds) → H q = none → Q (.ref q) (upd H q (.lst ws)) := fun ws q h hq => by
            obtain ⟨R', G⟩ := R.newC (o := .lst ws) (c := .lst ((sortS leD ds).map .d)) hq ⟨R.none hq, ws, upd_same, h.xs⟩
            exact p _ _ _ F R' G (.r (app_last R.len))
          have D1 : ∀ {d : D} {a : Addr}, Rel B F (.ref a) d → (match d with
              | .lst l => some l
              | .dct kvs => some (kvs.map fun kv => ofNK kv.1)
              | .dck kvs => some (kvs.map fun kv => ofK kv.1)
              | _ => none) = some ds → rSortA B [.ref a] H Q := fun {d a} r h => by
            cases r with
            | lst q r => cases h; exact ⟨_, F, _, rfl, R.froz, hs, fin, .inl ⟨_, Rd.same R.froz q, r⟩⟩
            | dct q r => cases h; exact ⟨_, F, _, rfl, R.froz, hs, fin, .inr (.inl ⟨_, _, R.froz _ _ q, (r.mono R.froz).keys, keys_relD r⟩)⟩
            | dck q r => cases h; exact ⟨_, F, _, rfl, R.froz, hs, fin, .inr (.inr ⟨_, R.froz _ _ q, keys_relKD r⟩)⟩
            | tup _ _ => cases h
            | opq _ => cases h
          rcases look1_rel R r1 with ⟨n, a, rfl, rfl, hn, c⟩ | ⟨d, rfl, r2⟩
          · unfold keysOf at e
            generalize look1 S (.r n) = cell at e c
            cases cell with
            | lst xs =>
              obtain ⟨_, us, h1, h2⟩ := c
              exact ⟨a, F, ds, rfl, R.froz, hs, fin, .inl ⟨us, .inl h1, allD_rels h2 e⟩⟩
            | dct kvs =>
              obtain ⟨_, ob, es, h1, h2⟩ := c
              cases e
              exact ⟨a, F, _, rfl, R.froz, hs, fin, .inr (.inl ⟨ob, es, h1, fun x hx => let ⟨p, r⟩ := h2.keys x hx; ⟨p.mono R.froz, r⟩, keys_rel h2⟩)⟩
            | dck kvs =>
              obtain ⟨_, us, h1, h2⟩ := c
              cases e
              exact ⟨a, F, _, rfl, R.froz, hs, fin, .inr (.inr ⟨us, h1, keys_relK h2⟩)⟩
            | frz d =>
              refine D1 (d := d) c ?_
              cases d <;> first | exact e | cases e
            | _ => cases e
          · unfold keysOf at e
            simp only [look1] at e
            have hv : ∃ a, v = .ref a := by cases r2 <;> first | exact ⟨_, rfl⟩ | cases e
            obtain ⟨a, rfl⟩ := hv
            refine D1 (d := d) r2 ?_
            cases d <;> first | exact e | cases e
        · rw [if_neg hs] at p; exact False.elim p
end
end Dn

set_option Elab.async false
set_option linter.all false
set_option maxRecDepth 100000
set_option maxHeartbeats 2000000
/-! Dn: comparing cells within cells. -/
namespace Dn
open PySem L2 PyProof.Rows
section
variable {X : Cx} {B : Bs} {W : WX}
def allO (f : Val → Option D) : List Val → Option (List D)
  | [] => some []
  | x :: xs => match f x, allO f xs with
    | some d, some ds => some (d :: ds)
    | _, _ => none
/-- looked at, through cells -/
def asDD : Nat → Sto → Val → Option D
  | 0, _, x => match x with
    | .d x => some x
    | .r _ => none
  | k + 1, S, x => match x with
    | .d x => some x
    | .r n => match S[n]? with
      | some (.lst xs) => (allO (asDD k S) xs).map .lst
      | some (.tup xs) => (allO (asDD k S) xs).map .tup
      | some (.frz x) => some x
      | _ => none
theorem allO_of {m : List Addr} {F H : Hp} {f : Val → Option D} (h : ∀ (v : V) (x : Val) (d : D), RelX B m F v x → f x = some d → Rel B H v d) : ∀ {vs : List V} {xs : List Val} {ds : List D}, RelXs B m F vs xs → allO f xs = some ds → Rels B H vs ds
  | _, _, _, .nil, e => by cases e; exact .nil
  | _, _, _, .cons r t, e => by
    rw [allO] at e
    split at e
    · rename_i d ds e1 e2
      cases e
      exact .cons (h _ _ _ r e1) (allO_of h t e2)
    · cases e
theorem asDD_ok {Hk : Hp} {m : List Addr} {F H : Hp} {S : Sto} (R : RH B Hk m F S H) : ∀ (k : Nat) (v : V) (x : Val) (d : D), RelX B m F v x → asDD k S x = some d → Rel B H v d
  | k, v, .d x, d, r, e => by
    have : asDD k S (.d x) = some x := by cases k <;> rfl
    rw [this] at e; cases e
    cases r with
    | d r => exact r.mono R.froz
  | 0, v, .r n, d, r, e => by cases e
  | k + 1, v, .r n, d, r, e => by
    rw [asDD] at e
    cases r with
    | r hn =>
      rename_i a
      split at e
      · rename_i xs hs
        obtain ⟨ds, e1, rfl⟩ := Option.map_eq_some_iff.mp e
        obtain ⟨_, vs, h1, h2⟩ := R.cell n a _ hn hs
        exact .lst (.inl h1) (allO_of (asDD_ok R k) h2 e1)
      · rename_i xs hs
        obtain ⟨ds, e1, rfl⟩ := Option.map_eq_some_iff.mp e
        obtain ⟨_, vs, h1, h2⟩ := R.cell n a _ hn hs
        exact .tup (SqT.of h1) (allO_of (asDD_ok R k) h2 e1)
      · rename_i z hs
        cases e
        have : Rel B F (.ref a) d := R.cell n a _ hn hs
        exact this.mono R.froz
      · cases e
def kEqX (neg : Bool) (x y : Val) (S : Sto) : Out Val := match asDD 8 S x, asDD 8 S y with
  | some a, some b => Out.of (((if neg then neD a b else eqD a b)).map .d) S
  | _, _ => .bad
theorem p_eqX (hB : BX B X) : Prim2 B W (rEqD X.K) (kEqX false) := by
  intro Hk σ m F S H v w x y Q R rx ry p
  unfold kEqX at p
  split at p
  · rename_i a b e1 e2
    have l1 := asDD_ok R 8 v x a rx e1
    have l2 := asDD_ok R 8 w y b ry e2
    simp only [Bool.false_eq_true, if_false, eqD, Bool.and_eq_true] at p
    split at p
    · rename_i hz
      refine ⟨_, _, hB.K ▸ l1.dp 60 hz.1, hB.K ▸ l2.dp 60 hz.2, shaped_of hz.1, shaped_of hz.2, ?_⟩
      rw [eqv_py 60 60 a b hz.1 hz.2]
      exact p _ H m F R (Grow.refl _ _ _) (.d (.bl _))
    · exact False.elim p
  · exact False.elim p
theorem p_neX (hB : BX B X) : Prim2 B W (rNeD X.K) (kEqX true) := by
  intro Hk σ m F S H v w x y Q R rx ry p
  unfold kEqX at p
  split at p
  · rename_i a b e1 e2
    have l1 := asDD_ok R 8 v x a rx e1
    have l2 := asDD_ok R 8 w y b ry e2
    simp only [if_true, neD, Bool.and_eq_true] at p
    split at p
    · rename_i hz
      refine ⟨_, _, hB.K ▸ l1.dp 60 hz.1, hB.K ▸ l2.dp 60 hz.2, shaped_of hz.1, shaped_of hz.2, ?_⟩
      rw [eqv_py 60 60 a b hz.1 hz.2]
      exact p _ H m F R (Grow.refl _ _ _) (.d (.bl _))
    · exact False.elim p
  · exact False.elim p
end
end Dn

set_option Elab.async false
set_option linter.all false
set_option maxRecDepth 100000
set_option maxHeartbeats 2000000
/-! Dn: displays of dicts with written text keys and any values; enumerate of a list's cell. -/
namespace Dn
open PySem L2 PyProof.Rows
section
variable {X : Cx} {B : Bs} {W : WX}
def dispA : List DE → DA
  | [] => aNil
  | f :: r => aCons f (dispA r)
def dispT (B : Bs) (W : WX) : List (List Nat × DE) → List (TE × TE)
  | [] => []
  | x :: r => (tC (.str ⟨x.1.toArray⟩), denE B W x.2) :: dispT B W r
def keyX {α : Type} : List (List Nat × DE) → List α → List (Key × α)
  | kf :: r, x :: xs => (.inr ⟨kf.1.toArray⟩, x) :: keyX r xs
  | _, _ => []
def cDispV (kfs : List (List Nat × DE)) : DE := fun sl S => (dispA (kfs.map (·.2)) sl (S ++ [Cell.dck []])).bind fun xs S1 => match S1[S.length]? with
  | some (.dck []) => .ok (.r S.length) (S1.set S.length (.dck (keyX kfs xs)))
  | _ => .bad
theorem disp_pairsV : ∀ {kfs : List (List Nat × DE)} {σ : L2.St} {H : Hp} {Q : List V → Hp → Prop}, denA B W (dispA (kfs.map (·.2))) σ H Q → tPairs (dispT B W kfs) σ H fun ps H2 => ∃ vs, ps = (keyX kfs vs).map (fun kv => (kV kv.1, kv.2)) ∧ vs.length = kfs.length ∧ Q vs H2
  | [], σ, H, Q, ⟨Hk, m, F, sl, S, R, R2, q⟩ => ⟨[], rfl, rfl, q [] H m F R (Grow.refl _ _ _) .nil⟩
  | x :: r, σ, H, Q, ⟨Hk, m, F, sl, S, R, R2, q⟩ => by
    show denE B W x.2 σ H fun y H2 => tPairs (dispT B W r) σ H2 fun ps H3 => _
    refine den_mono (den_step (k := fun x S1 => (dispA (r.map (·.2)) sl S1).bind fun xs S2 => .ok (x :: xs) S2) R R2 q) fun v H1 ⟨m1, F1, S1, y, R1, R21, G, r1, p⟩ => ?_
    have := disp_pairsV (kfs := r) (den_mono (den_step (k := fun xs S2 => .ok (y :: xs) S2) R1 R21 p) fun w H2 ⟨m2, F2, S2, z, R3, R23, G2, r2, p2⟩ => (show Q (v :: w) H2 from p2 _ H2 m2 F2 R3 (Grow.refl _ _ _) (.cons (r1.grow G2) r2)))
    have mono : ∀ (l : List (TE × TE)) (σ : L2.St) (H : Hp) (P P' : List (V × V) → Hp → Prop), (∀ TT ∈ l, (∀ σ H (Q Q' : VK), (∀ v H, Q v H → Q' v H) → TT.1 σ H Q → TT.1 σ H Q') ∧ ∀ σ H (Q Q' : VK), (∀ v H, Q v H → Q' v H) → TT.2 σ H Q → TT.2 σ H Q') → (∀ ps H, P ps H → P' ps H) → tPairs l σ H P → tPairs l σ H P' := by
      intro l
      induction l with
      | nil => intro σ H P P' _ h q; exact h _ _ q
      | cons t l ih =>
        intro σ H P P' hl h q
        obtain ⟨h1, h2⟩ := hl t List.mem_cons_self
        exact h1 _ _ _ _ (fun x H1 q1 => h2 _ _ _ _ (fun y H2 q2 => ih _ _ _ _ (fun T hT => hl T (List.mem_cons_of_mem _ hT)) (fun ps H3 => h _ _) q2) q1) q
    have hm : ∀ kfs : List (List Nat × DE), ∀ TT ∈ dispT B W kfs, (∀ σ H (Q Q' : VK), (∀ v H, Q v H → Q' v H) → TT.1 σ H Q → TT.1 σ H Q') ∧ ∀ σ H (Q Q' : VK), (∀ v H, Q v H → Q' v H) → TT.2 σ H Q → TT.2 σ H Q' := by
      intro kfs
      induction kfs with
      | nil => intro T hT; simp [dispT] at hT
      | cons k kfs ih =>
        intro T hT
        rw [dispT] at hT
        rcases List.mem_cons.mp hT with rfl | hT
        · exact ⟨fun σ H Q Q' w q => w _ _ q, fun σ H Q Q' w q => den_mono q w⟩
        · exact ih T hT
    exact mono _ _ _ _ _ (hm r) (fun ps H2 ⟨vs, e, hl, hq⟩ => ⟨v :: vs, by rw [e]; rfl, by simp [hl], hq⟩) this
theorem keyX_rel {m : List Addr} {F : Hp} : ∀ {kfs : List (List Nat × DE)} {vs : List V} {xs : List Val}, RelXs B m F vs xs → KvXs B m F (keyX kfs vs) (keyX kfs xs)
  | [], _, _, r => by cases r <;> exact .nil
  | _ :: _, _, _, .nil => .nil
  | _ :: _, _, _, .cons r t => .cons r (keyX_rel t)
theorem keyX_keys {α : Type} : ∀ {kfs : List (List Nat × DE)} {vs : List α}, vs.length = kfs.length → (keyX kfs vs).map (·.1) = kfs.map fun x => Sum.inr ⟨x.1.toArray⟩
  | [], _, _ => by rfl
  | _ :: _, [], h => by simp at h
  | k :: kfs, v :: vs, h => by
    rw [keyX, List.map_cons, List.map_cons, keyX_keys (by simpa using h)]
theorem merge_nodup : ∀ (more acc : List (Key × V)), ((acc ++ more).map (·.1)).Nodup → mergeK acc more = acc ++ more
  | [], acc, _ => by simp [mergeK]
  | kv :: more, acc, h => by
    have h1 : (acc.any fun x => decide (x.1 = kv.1)) = false := by
      rw [List.any_eq_false]
      intro x hx
      rw [List.map_append, List.map_cons, List.nodup_append] at h
      have := h.2.2 x.1 (List.mem_map.mpr ⟨x, hx, rfl⟩) kv.1 List.mem_cons_self
      simpa using this
    have e : putK acc kv.1 kv.2 = acc ++ [kv] := by
      unfold putK
      rw [h1]; rfl
    show mergeK (putK acc kv.1 kv.2) more = _
    rw [e, merge_nodup more (acc ++ [kv]) (by simpa using h)]
    simp
theorem de_dispV {keys : List (Option Expr)} {values : List Expr} {pos : Pos} (kfs : List (List Nat × DE)) (h : PPs X pos keys values (dispT B W kfs)) (hall : keys.all (·.isSome) = true := by rfl) (hl : keys.length = values.length := by rfl) (h0 : keys ≠ [] := by exact fun h => nomatch h)
    (h15 : keys.length ≤ 15 := by decide) (h16 : kfs.length ≤ 15 := by decide) (hm : (kfs.map fun x => (Sum.inr ⟨x.1.toArray⟩ : Key)).Nodup := by decide) : PE X (.Dict keys values pos) (denE B W (cDispV kfs)) :=
  PE_weak (pe_disp h hall hl h0 h15) fun σ H Q ⟨Hk, m, F, sl, S, R, R2, q⟩ p hp => by
    obtain ⟨R', G⟩ := R.newC (o := .dK []) (c := .dck []) hp ⟨R.none hp, [], upd_same, .nil⟩
    have hq : post (α := Val) (γ := V) B W (relE B) Hk σ (m ++ [p]) F (upd H p (.dK [])) ((dispA (kfs.map (·.2)) sl (S ++ [Cell.dck []])).bind fun xs S1 => match S1[S.length]? with
      | some (.dck []) => Out.ok (Val.r S.length) (S1.set S.length (.dck (keyX kfs xs)))
      | _ => Out.bad) Q := post_grow G q
    have := disp_pairsV (kfs := kfs) (den_step (k := fun xs S1 => match S1[S.length]? with
      | some (.dck []) => Out.ok (Val.r S.length) (S1.set S.length (.dck (keyX kfs xs)))
      | _ => Out.bad) R' (R2.mono G) hq)
    have mono : ∀ (kfs : List (List Nat × DE)) (σ : L2.St) (H : Hp) (P P' : List (V × V) → Hp → Prop), (∀ ps H, P ps H → P' ps H) → tPairs (dispT B W kfs) σ H P → tPairs (dispT B W kfs) σ H P' := by
      intro kfs
      induction kfs with
      | nil => intro σ H P P' h q; exact h _ _ q
      | cons t l ih =>
        intro σ H P P' h q
        exact (show denE B W t.2 σ H _ from den_mono (show denE B W t.2 σ H _ from q) fun y H2 q2 => ih _ _ _ _ (fun ps H3 => h _ _) q2)
    refine mono _ _ _ _ _ (fun ps H2 ⟨vs, e, hlen, m1, F1, S1, xs, R1, R21, G1, r1, p1⟩ => ?_) this
    have hn : m1[S.length]? = some p := by
      obtain ⟨more, rfl⟩ := G1.mm
      exact app_get (app_last R.len)
    split at p1
    · rename_i e1
      obtain ⟨h0', us, h1, h2⟩ := R1.cell S.length p _ hn e1
      cases h2
      refine ⟨h1, keyX kfs vs, e, by
        have := congrArg List.length (keyX_keys (kfs := kfs) hlen)
        rw [List.length_map, List.length_map] at this
        omega, ?_⟩
      rw [merge_nodup (keyX kfs vs) [] (by rw [List.nil_append, keyX_keys hlen]; exact hm), List.nil_append]
      obtain ⟨R3, G3⟩ := R1.write (c := .dck []) (c' := .dck (keyX kfs xs)) (o := .dK (keyX kfs vs)) hn h0' ⟨h0', _, upd_same, keyX_rel r1⟩
      exact p1 _ _ m1 F1 R3 G3 (.r hn)
    · exact False.elim p1
/-! ### enumerate(xs), xs a cell -/
def enV : Nat → List Val → Option (List Val)
  | _, [] => some []
  | i, .d a :: r => (enV (i + 1) r).map (Val.d (.tup [.int (i : Nat), a]) :: ·)
  | _, .r _ :: _ => none
theorem enV_get : ∀ {xs zs : List Val} {k : Nat}, enV k xs = some zs → ∀ i : Nat, (∀ z, zs[i]? = some z → ∃ a, xs[i]? = some (.d a) ∧ z = .d (.tup [.int ((k + i : Nat) : Int), a])) ∧ (zs[i]? = none → xs.length ≤ i)
  | [], zs, k, e, i => by cases e; exact ⟨fun z h => by simp at h, fun _ => Nat.zero_le _⟩
  | .d a :: xs, zs, k, e, i => by
    rw [enV] at e
    obtain ⟨zs', e', rfl⟩ := Option.map_eq_some_iff.mp e
    have ih := enV_get e'
    cases i with
    | zero => exact ⟨fun z h => by simp at h; subst h; exact ⟨a, rfl, rfl⟩, fun h => by simp at h⟩
    | succ i =>
      obtain ⟨h1, h2⟩ := ih i
      exact ⟨fun z h => by
        obtain ⟨b, h3, h4⟩ := h1 z (by simpa using h)
        exact ⟨b, h3, by rw [h4, show k + 1 + i = k + (i + 1) by omega]⟩, fun h => by
        have := h2 (by simpa using h)
        simp only [List.length_cons]; omega⟩
  | .r _ :: _, zs, k, e, i => by cases e
def iEnumC (f : DE) : DI := fun sl S => (f sl S).bind fun x S1 => match lstItems S1 x with
  | some _ => .ok (fun S' => (lstItems S' x).bind (enV 0)) S1
  | none => .bad
theorem di_enumC {e : Expr} {f : DE} {p pos tpos : Pos} {elts : List Expr} {kk : Nat} (hB : BX B X) (hg : Gl X "enumerate") (hm : X.mg "enumerate" = none) (he : PE X e (denE B W f)) (hs : starEach [e] X.env = [(false, eval e X.env)] := by rfl) (hs2 : starEach [e] X.env = (false, eval e X.env) :: starEach [] X.env := by rfl) :
    PI X (.Tuple elts kk tpos) (.Call (.Name "enumerate" p) [e] [] pos) (denI B W (iEnumC f)) :=
  PI_weak (pi_enA hg hm (pa_cons he pa_nil hs2) hs) fun σ H R ⟨Hk, m, F, sl, S, R1, R2, q⟩ => by
    show denE B W f σ H _
    refine ⟨Hk, m, F, sl, S, R1, R2, ?_⟩
    unfold iEnumC at q
    cases e0 : f sl S with
    | exc c S' => rw [e0] at q; exact q
    | bad => rw [e0] at q; exact q
    | ok x S1 =>
      rw [e0, Out.bind_ok] at q
      intro v H' m' F' R3 G r
      cases e1 : lstItems S1 x with
      | none => rw [e1] at q; exact False.elim q
      | some xs0 =>
        rw [e1] at q
        dsimp only at q
        obtain ⟨a, us, rfl, h1, h2⟩ := lst_items R3 r e1
        refine .inl ⟨a, us, rfl, .inl h1, q _ m' F' H' R3 G ?_⟩
        intro Hk i m F S H zs R G e
        obtain ⟨xs, e2, e3⟩ := Option.bind_eq_some_iff.mp e
        obtain ⟨a', vs, e4, h3, h4⟩ := lst_items R (r.grow G) e2
        cases e4
        obtain ⟨g1, g2⟩ := enV_get e3 i
        refine ⟨fun z hz => ?_, fun hz => ?_⟩
        · obtain ⟨da, x1, rfl⟩ := g1 z hz
          obtain ⟨w, hw, rw'⟩ := h4.get x1
          refine ⟨⟨vs, w, .inl h3, hw⟩, fun u H' ⟨T, y, e5, hT, e6, e7⟩ => ?_⟩
          subst e5 e6
          have k1 := e7 vs (.inl h3)
          rw [hw] at k1; cases k1
          obtain ⟨R', G'⟩ := R.newF (o := .tup [.int (i : Nat), w]) hT
          refine ⟨_, R', G', .d (.tup (SqT.of upd_same) (.cons ?_ (.cons (rw'.dd.mono (same_own (R.none hT))) .nil)))⟩
          rw [Nat.zero_add]
          exact .int _
        · exact ⟨vs, .inl h3, by rw [h4.len]; exact g2 hz⟩
end
end Dn

set_option Elab.async false
set_option linter.all false
set_option maxRecDepth 100000
set_option maxHeartbeats 2000000
/-! Dn: a dict's cell locked while an expression runs; its keys walked. -/
namespace Dn
open PySem L2 PyProof.Rows
/-- all but the thing at a -/
def dropA (F : Hp) (a : Addr) : Hp := fun b => if b = a then none else F b
theorem dropA_ne {F : Hp} {a b : Addr} (h : b ≠ a) : dropA F a b = F b := if_neg h
theorem dropA_same {F : Hp} {a : Addr} : dropA F a a = none := if_pos rfl
section
variable {B : Bs} {F : Hp} {a : Addr} {od : Obj} {us : List (Key × V)}
theorem Rd.less (hF : F a = some (.frz od (.dK us))) {b : Addr} {u : HO} (hu : ∀ vs, u ≠ .dK vs) (hf : ∀ o w, u ≠ .frz o w) (h : Rd F b u) : Rd (dropA F a) b u := by
  have ne : b ≠ a := fun e => by
    subst e
    rcases h with h | ⟨o, h⟩
    · rw [hF] at h; cases h; exact hf _ _ rfl
    · rw [hF] at h; cases h; exact hu _ rfl
  rcases h with h | ⟨o, h⟩
  · exact .inl (by rw [dropA_ne ne]; exact h)
  · exact .inr ⟨o, by rw [dropA_ne ne]; exact h⟩
theorem SqT.less {K : PySem.W.Frag} (hF : F a = some (.frz od (.dK us))) {b : Addr} {xs : List V} (h : SqT K F b xs) : SqT K (dropA F a) b xs := by
  rcases h with (h | ⟨o, h⟩) | h
  · have := Rd.less hF (b := b) (u := .tup xs) (by intro vs h; cases h) (by intro o w h; cases h) (.inl h)
    exact .inl this
  · have := Rd.less hF (b := b) (u := .tup xs) (by intro vs h; cases h) (by intro o w h; cases h) (.inr ⟨o, h⟩)
    exact .inl this
  · exact .inr h
mutual
theorem Rel.less (hF : F a = some (.frz od (.dK us))) : ∀ {v : V} {d : D}, Rel B F v d → Rel B (dropA F a) v d
  | _, _, .non => .non
  | _, _, .bl b => .bl b
  | _, _, .int i => .int i
  | _, _, .str s => .str s
  | _, _, .tup q r => .tup (SqT.less hF q) (Rels.less hF r)
  | _, _, .lst q r => .lst (Rd.less hF (by intro vs h; cases h) (by intro o w h; cases h) q) (Rels.less hF r)
  | _, _, .dct (a := b) q r => .dct (by rw [dropA_ne (fun e => by rw [e, hF] at q; cases q)]; exact q) (Ents.less hF r)
  | _, _, .dck (a := b) q r => .dck (by rw [dropA_ne (fun e => by rw [e, hF] at q; cases q)]; exact q) (Kvs.less hF r)
  | _, _, .opq h => .opq h
theorem Rels.less (hF : F a = some (.frz od (.dK us))) : ∀ {v : List V} {d : List D}, Rels B F v d → Rels B (dropA F a) v d
  | _, _, .nil => .nil
  | _, _, .cons q r => .cons (Rel.less hF q) (Rels.less hF r)
theorem Ents.less (hF : F a = some (.frz od (.dK us))) : ∀ {v : List Ent} {d : List (NestedKey × D)}, Ents B F v d → Ents B (dropA F a) v d
  | _, _, .nil => .nil
  | _, _, .cons q g r s t => .cons (Rel.less hF q) g r (Rel.less hF s) (Ents.less hF t)
theorem Kvs.less (hF : F a = some (.frz od (.dK us))) : ∀ {v : List (Key × V)} {d : List (Key × D)}, Kvs B F v d → Kvs B (dropA F a) v d
  | _, _, .nil => .nil
  | _, _, .cons q r => .cons (Rel.less hF q) (Kvs.less hF r)
end
theorem RelX.less {m : List Addr} (hF : F a = some (.frz od (.dK us))) {v : V} {x : Val} (h : RelX B m F v x) : RelX B m (dropA F a) v x := by
  cases h with
  | d h => exact .d (h.less hF)
  | r h => exact .r h
theorem RelXs.less {m : List Addr} (hF : F a = some (.frz od (.dK us))) : ∀ {v : List V} {x : List Val}, RelXs B m F v x → RelXs B m (dropA F a) v x
  | _, _, .nil => .nil
  | _, _, .cons h r => .cons (h.less hF) (RelXs.less hF r)
theorem EntXs.less {m : List Addr} (hF : F a = some (.frz od (.dK us))) : ∀ {v : List Ent} {x : List (NestedKey × Val)}, EntXs B m F v x → EntXs B m (dropA F a) v x
  | _, _, .nil => .nil
  | _, _, .cons h g r s t => .cons (h.less hF) g r (s.less hF) (EntXs.less hF t)
theorem KvXs.less {m : List Addr} (hF : F a = some (.frz od (.dK us))) : ∀ {v : List (Key × V)} {x : List (Key × Val)}, KvXs B m F v x → KvXs B m (dropA F a) v x
  | _, _, .nil => .nil
  | _, _, .cons h r => .cons (h.less hF) (KvXs.less hF r)
theorem RelOX.less {m : List Addr} (hF : F a = some (.frz od (.dK us))) {v : Option V} {x : Option Val} (h : RelOX B m F v x) : RelOX B m (dropA F a) v x := by
  cases v with
  | none => cases x with
    | none => trivial
    | some _ => exact h.elim
  | some v => cases x with
    | none => exact h.elim
    | some x => exact RelX.less hF h
theorem CellR.less {m : List Addr} {H H' : Hp} (hF : F a = some (.frz od (.dK us))) {b : Addr} {c : Cell} (hb : b ≠ a) (hH : H' b = H b) (x : CellR B m F H b c) : CellR B m (dropA F a) H' b c := by
  cases c with
  | lst xs => obtain ⟨e0, vs, e, r⟩ := x; exact ⟨by rw [dropA_ne hb]; exact e0, vs, hH.trans e, r.less hF⟩
  | tup xs => obtain ⟨e0, vs, e, r⟩ := x; exact ⟨by rw [dropA_ne hb]; exact e0, vs, hH.trans e, r.less hF⟩
  | dct kvs => obtain ⟨e0, o, es, e, r⟩ := x; exact ⟨by rw [dropA_ne hb]; exact e0, o, es, hH.trans e, r.less hF⟩
  | dck kvs => obtain ⟨e0, vs, e, r⟩ := x; exact ⟨by rw [dropA_ne hb]; exact e0, vs, hH.trans e, r.less hF⟩
  | obj C fs =>
    obtain ⟨e0, dx, vs, e, l, l2, n, r⟩ := x
    exact ⟨by rw [dropA_ne hb]; exact e0, dx, vs, hH.trans e, l, l2, n, fun i nm y h1 h2 => (r i nm y h1 h2).less hF⟩
  | frz x => exact Rel.less hF (show Rel B F (.ref b) _ from by assumption)
  | lck kvs => obtain ⟨o, vs, e, r⟩ := x; exact ⟨o, vs, by rw [dropA_ne hb]; exact e, r.less hF⟩
end
section
variable {X : Cx} {B : Bs} {W : WX}
theorem get_ne {m : List Addr} (hn : m.Nodup) {k n : Nat} {a b : Addr} (h1 : m[k]? = some b) (h2 : m[n]? = some a) (h : k ≠ n) : b ≠ a := fun e => by
  subst e
  obtain ⟨l1, e1⟩ := List.getElem?_eq_some_iff.mp h1
  obtain ⟨l2, e2⟩ := List.getElem?_eq_some_iff.mp h2
  exact h ((List.getElem?_inj l1 hn).mp (h1.trans h2.symm))
theorem RH.lock {Hk : Hp} {m : List Addr} {F H : Hp} {S : Sto} {n : Nat} {a : Addr} {kvs : List (Key × Val)} {vs : List (Key × V)} (R : RH B Hk m F S H) (hn : m[n]? = some a) (hs : S[n]? = some (.dck kvs)) (h0 : F a = Option.none) (h1 : H a = some (.dK vs)) (h2 : KvXs B m F vs kvs) (od : Obj) :
    RH B Hk m (upd F a (.frz od (.dK vs))) (S.set n (.lck kvs)) (upd H a (.frz od (.dK vs))) ∧ Grow m F H m (upd F a (.frz od (.dK vs))) (upd H a (.frz od (.dK vs))) := by
  have hkn := R.free a (mem_get hn)
  refine ⟨⟨fun b u e => ?_, fun b u e => ?_, by simp [R.len], R.nd, fun b hb => ?_, R.free, fun b ps e => ?_, fun b hb o e => ?_, B.jp.wr R.j (mem_get hn), fun k b c hk hc => ?_⟩, ⟨⟨[], by simp⟩, fun _ h => .inl h, same_own h0, fun b hb _ hm => ?_, fun b hb => ?_⟩⟩
  · rw [upd_ne (ne_of_none e hkn)]; exact R.keep b u e
  · by_cases hb : b = a
    · rw [hb, upd_same] at e; rw [hb, upd_same]; exact e
    · rw [upd_ne hb] at e; rw [upd_ne hb]; exact R.froz b u e
  · by_cases q : b = a
    · rw [q, upd_same]; simp
    · rw [upd_ne q]; exact R.there b hb
  · by_cases hb : b = a
    · rw [hb, upd_same] at e; cases e
    · rw [upd_ne hb] at e; exact R.nt b ps e
  · by_cases q : b = a
    · rw [q, upd_same] at e
      cases e
      exact ⟨(by intro _ h; cases h), (by intro _ _ h; cases h)⟩
    · rw [upd_ne q] at e; exact R.nc b hb o e
  · by_cases hkn' : k = n
    · subst hkn'
      rw [hn] at hk; cases hk
      rw [List.getElem?_set_self (List.getElem?_eq_some_iff.mp hs).1] at hc
      cases hc
      exact ⟨od, vs, upd_same, h2.mono ⟨[], by simp⟩ (same_own h0)⟩
    · rw [List.getElem?_set_ne (Ne.symm hkn')] at hc
      have hb := get_ne R.nd hk hn hkn'
      exact (R.cell k b c hk hc).keep ⟨[], by simp⟩ (same_own h0) (upd_ne hb) fun z => by rw [upd_ne hb]; exact z
  · have ne : b ≠ a := fun e => hm (by rw [e]; exact mem_get hn)
    rw [upd_ne ne]; exact hb
  · by_cases q : b = a
    · rw [q, upd_same]; simp
    · rw [upd_ne q]; exact hb
theorem RH.unlock {Hk : Hp} {m : List Addr} {F H : Hp} {S : Sto} {n : Nat} {a : Addr} {kvs : List (Key × Val)} {od : Obj} {vs : List (Key × V)} (R : RH B Hk m F S H) (hn : m[n]? = some a) (hs : S[n]? = some (.lck kvs)) (hF : F a = some (.frz od (.dK vs))) :
    RH B Hk m (dropA F a) (S.set n (.dck kvs)) (upd H a (.dK vs)) := by
  have hkn := R.free a (mem_get hn)
  obtain ⟨o', vs', e1, h2⟩ := R.cell n a _ hn hs
  rw [hF] at e1; cases e1
  refine ⟨fun b u e => ?_, fun b u e => ?_, by simp [R.len], R.nd, fun b hb => ?_, R.free, fun b ps e => ?_, fun b hb o e => ?_, B.jp.wr R.j (mem_get hn), fun k b c hk hc => ?_⟩
  · rw [upd_ne (ne_of_none e hkn)]; exact R.keep b u e
  · by_cases hb : b = a
    · rw [hb, dropA_same] at e; cases e
    · rw [dropA_ne hb] at e; rw [upd_ne hb]; exact R.froz b u e
  · by_cases q : b = a
    · rw [q, upd_same]; simp
    · rw [upd_ne q]; exact R.there b hb
  · by_cases hb : b = a
    · rw [hb, dropA_same] at e; cases e
    · rw [dropA_ne hb] at e; exact R.nt b ps e
  · by_cases q : b = a
    · rw [q, upd_same] at e
      cases e
      exact ⟨(by intro _ h; cases h), (by intro _ _ h; cases h)⟩
    · rw [upd_ne q] at e; exact R.nc b hb o e
  · by_cases hkn' : k = n
    · subst hkn'
      rw [hn] at hk; cases hk
      rw [List.getElem?_set_self (List.getElem?_eq_some_iff.mp hs).1] at hc
      cases hc
      exact ⟨dropA_same, vs, upd_same, h2.less hF⟩
    · rw [List.getElem?_set_ne (Ne.symm hkn')] at hc
      have hb := get_ne R.nd hk hn hkn'
      exact (R.cell k b c hk hc).less hF hb (upd_ne hb)
/-- the dict in slot i is locked while f runs -/
def dLock (i : Nat) (f : DE) : DE := fun sl S => match sl[i]? with
  | some (some (.r n)) => (match S[n]? with
    | some (.dck kvs) => (match f sl (S.set n (.lck kvs)) with
      | .ok x S1 => (match S1[n]? with
        | some (.lck kvs') => .ok x (S1.set n (.dck kvs'))
        | _ => .bad)
      | _ => .bad)
    | _ => .bad)
  | _ => .bad
theorem de_lock (i : Nat) {e : Expr} {f : DE} (h : PE X e (denE B W f)) : PE X e (denE B W (dLock i f)) :=
  PE_weak (pe_lock h) fun σ H Q ⟨Hk, m, F, sl, S, R, R2, q⟩ => by
    unfold dLock at q
    split at q
    · rename_i n hi
      split at q
      · rename_i kvs hs
        obtain ⟨v, _, rv⟩ := R2.at_ i _ hi
        cases rv with
        | r hn =>
          rename_i a _
          obtain ⟨h0, vs, h1, h2⟩ := R.cell n a _ hn hs
          refine ⟨a, .dK vs, h1, trivial, fun od => ?_⟩
          obtain ⟨R1, G1⟩ := R.lock hn hs h0 h1 h2 od
          refine ⟨Hk, m, _, sl, _, R1, R2.mono G1, ?_⟩
          cases e1 : f sl (S.set n (.lck kvs)) with
          | bad => rw [e1] at q; exact False.elim q
          | exc c S1 => rw [e1] at q; exact False.elim q
          | ok x S1 =>
            rw [e1] at q
            dsimp only at q
            intro w H' m' F' R' G' r'
            have hF : F' a = some (.frz od (.dK vs)) := G'.ff _ _ upd_same
            refine ⟨R'.froz _ _ hF, ?_⟩
            split at q
            · rename_i kvs' hs'
              have hn' : m'[n]? = some a := by
                obtain ⟨more, rfl⟩ := G'.mm
                exact app_get hn
              refine q w _ m' (dropA F' a) (R'.unlock hn' hs' hF) ⟨G'.mm, fun b hb => ?_, fun b u e => ?_, fun b hb1 hb2 hb3 => ?_, fun b hb => ?_⟩ (r'.less hF)
              · rcases G'.mf b hb with z | z
                · exact .inl z
                · refine .inr ?_
                  rw [upd_ne (fun e => by rw [e, upd_same] at z; cases z)] at z
                  exact z
              · have ne := ne_of_none e h0
                rw [dropA_ne ne]
                exact G'.ff b u (by rw [upd_ne ne]; exact e)
              · have ne : b ≠ a := fun e => hb3 (e ▸ mem_get hn)
                rw [dropA_ne ne]
                exact G'.fr b (by rw [upd_ne ne]; exact hb1) (by rw [upd_ne ne]; exact hb2) hb3
              · by_cases ne : b = a
                · rw [ne, upd_same]; simp
                · rw [upd_ne ne]
                  exact G'.hh b (by rw [upd_ne ne]; exact hb)
            · exact False.elim q
      · exact False.elim q
    · exact False.elim q
/-- a locked dict's keys, walked -/
def iDictL (f : DE) : DI := fun sl S => (f sl S).bind fun x S1 => match x with
  | .r n => (match S1[n]? with
    | some (.lck kvs) => .ok (fun _ => some (kvs.map fun kv => Val.d (ofK kv.1))) S1
    | _ => .bad)
  | _ => .bad
theorem kvxs_get {m : List Addr} {F : Hp} : ∀ {es : List (Key × V)} {kvs : List (Key × Val)} {i : Nat} {k : Key} {v : V}, KvXs B m F es kvs → es[i]? = some (k, v) → ∃ x, kvs[i]? = some (k, x)
  | _, _, _, _, _, .nil, h => by simp at h
  | _, _, 0, _, _, .cons _ t, h => by simp at h; obtain ⟨rfl, rfl⟩ := h; exact ⟨_, rfl⟩
  | _, _, i + 1, _, _, .cons _ t, h => by
    obtain ⟨x, e⟩ := kvxs_get t (by simpa using h)
    exact ⟨x, by simpa using e⟩
theorem di_dictL {tg e : Expr} {f : DE} (he : PE X e (denE B W f)) : PI X tg e (denI B W (iDictL f)) :=
  PI_weak (pi_keys he) fun σ H R ⟨Hk, m, F, sl, S, R1, R2, q⟩ => by
    show denE B W f σ H _
    refine ⟨Hk, m, F, sl, S, R1, R2, ?_⟩
    unfold iDictL at q
    cases e0 : f sl S with
    | exc c S' => rw [e0] at q; exact q
    | bad => rw [e0] at q; exact q
    | ok x S1 =>
      rw [e0, Out.bind_ok] at q
      intro v H' m' F' R3 G r
      cases r with
      | d _ => exact False.elim q
      | r hn =>
        rename_i n a
        dsimp only at q
        split at q
        · rename_i o it S2 ee
          split at ee
          · rename_i kvs hs
            cases ee
            obtain ⟨od, vs, hF, h2⟩ := R3.cell n a _ hn hs
            refine ⟨a, od, rfl, .inl ⟨vs, R3.froz _ _ hF, q _ m' F' H' R3 G ?_⟩⟩
            intro Hk i m F S H zs R G e
            cases e
            have hF2 := R.froz _ _ (G.ff _ _ hF)
            refine ⟨fun z hz => ?_, fun hz => ?_⟩
            · rw [List.getElem?_map] at hz
              obtain ⟨kv, hkv, rfl⟩ := Option.map_eq_some_iff.mp hz
              have hi : i < kvs.length := (List.getElem?_eq_some_iff.mp hkv).1
              refine ⟨⟨hF2, by rw [h2.len]; exact hi⟩, fun u H' ⟨e1, k, v, e2, e3⟩ => ?_⟩
              subst e1 e3
              obtain ⟨x, e4⟩ := kvxs_get h2 e2
              rw [hkv] at e4; cases e4
              exact ⟨F, R, Grow.refl _ _ _, .d (ofK_rel k)⟩
            · refine ⟨hF2, ?_⟩
              rw [h2.len]
              simpa using hz
          · cases ee
        · rename_i ee
          split at ee <;> cases ee
        · exact False.elim q
end
end Dn

set_option Elab.async false
set_option linter.all false
set_option maxRecDepth 100000
set_option maxHeartbeats 2000000
/-! Dn: d != {}. -/
namespace Dn
open PySem L2 PyProof.Rows
section
variable {prog : Program} {w : World} {A : Around} {E : Value → Shared → Prop} {s : Shared}
theorem ne_empty {a b : Addr} {oa ob : Obj} {es es' : Array DictEntry} {ep ep' : Nat} {Q : Value → Shared → Prop} (ha : (a == sysModules) = false) (hb : (b == sysModules) = false) (hoa : s.heap.get? a = some oa) (xa : oa.ExactDict) (hda : oa.data = .dict es ep) (hob : s.heap.get? b = some ob) (xb : ob.ExactDict) (hdb : ob.data = .dict es' ep')
    (h0 : es'.size = 0) (hu : A.units < cLine) (h : Q (.bool (!(es.size == 0))) s) : wpAny (model prog w) A (compareOp .NotEq (.ref a) (.ref b)) Q E s := by
  have ta : s.TypeIs (.ref a) "dict" := ⟨oa, hoa, xa.1⟩
  have tb : s.TypeIs (.ref b) "dict" := ⟨ob, hob, xb.1⟩
  refine wpAny_richCompare_same_room (op := .NotEq) ta tb PySem.F.slot_dict_ne (wpAny_call_entry PySem.F.slot_dict_ne ta PySem.F.entry_dict_ne ?_ (PySem.F.args_dict_ne_2 _ _)) hu
  show wpAny _ _ (Builtin.Dict.dictSlotArgs "__ne__" ⟨[.ref a, .ref b], []⟩ >>= _) _ _ s
  refine wpAny_bind ?_
  unfold Builtin.Dict.dictSlotArgs
  refine wpAny_bind (wpAny_notOrdered_dict ta ?_)
  show wpAny _ _ (pure (Value.ref a, Value.ref b)) _ _ s
  refine wpAny_pure (wpAny_bind (wpAny_isInstance (T := "dict") tb PySem.F.sub_dict_dict ?_))
  simp only [Bool.not_true, Bool.false_eq_true, if_false]
  refine wpAny_bind (wpAny_pure (wpAny_bind (wpAny_pure (wpAny_bind (same_empty ha hb hoa hda hob hdb h0 ?_)))))
  exact wpAny_pure ⟨_, rfl, (fun x => nomatch x), by simpa using h⟩
end
section
variable {X : Cx} {B : Bs} {W : WX}
def rNeE (B : Bs) : R2 := fun x y H Q => ∃ a b n, x = .ref a ∧ y = .ref b ∧ AnyDct B H a n ∧ AnyDct B H b 0 ∧ Q (.bl (!(n == 0))) H
theorem op_neE (hu : X.A.units + 100 < cLine) : OpR X (compareOp .NotEq) (rNeE B) := by
  intro pins s σ H x y v u Q I rx ry h
  obtain ⟨a, b, n, rfl, rfl, h1, h2, q⟩ := h
  cases rx
  cases ry
  obtain ⟨oa, es, ep, la, hoa, xa, da, na⟩ := anyDct_raw I h1
  obtain ⟨ob, es', ep', lb, hob, xb, db, nb⟩ := anyDct_raw I h2
  refine ne_empty la lb hoa xa da hob xb db nb (by omega) ⟨.bl _, H, I, rfl, ?_⟩
  rw [na]; exact q
/-- x != {} -/
def kNeE (x y : Val) (S : Sto) : Out Val := match lenDct S x, lenDct S y with
  | some n, some 0 => .ok (.d (.bl (!(n == 0)))) S
  | _, _ => .bad
theorem p_neE : Prim2 B W (rNeE B) kNeE := by
  intro Hk σ m F S H v w x y Q R rx ry p
  unfold kNeE at p
  split at p
  · rename_i n e1 e2
    obtain ⟨a, rfl, h1⟩ := len_dct R rx e1
    obtain ⟨b, rfl, h2⟩ := len_dct R ry e2
    exact ⟨a, b, n, rfl, rfl, h1, h2, p _ H m F R (Grow.refl _ _ _) (.d (.bl _))⟩
  · exact False.elim p
end
end Dn

set_option Elab.async false
set_option linter.all false
set_option maxRecDepth 100000
set_option maxHeartbeats 2000000
/-! Dn: sum of a list or a tuple of numbers. -/
namespace Dn
open PySem PySem.Spec L2 PyProof.Rows
section
variable {X : Cx} {B : Bs} {W : WX}
def rSumT (K : PySem.W.Frag) : List V → Hp → VK → Prop := fun vs H Q => ∃ (a : Addr) (ns : List Int), vs = [V.ref a] ∧ (SqL K H a (ns.map V.int) ∨ SqT K H a (ns.map V.int)) ∧ Q (.int ns.sum) H
theorem cr_sumT (hc : X.calm = true) : CallR X (.builtin "sum") (rSumT X.K) := by
  intro pins s σ H vs us Q I r h
  obtain ⟨a, ns, rfl, hs | hs, q⟩ := h
  · exact cr_sum hc pins s σ H _ us Q I r ⟨a, ns, rfl, hs, q⟩
  · obtain ⟨its, rv, hl, _⟩ := I.tuple hs
    rw [Vals.ref1 r]
    have hl : s.heap.IsTuple a its.toArray := hl
    obtain ⟨xs, e⟩ := rv.ints.allInts.items
    have hn : numsOf (intItems xs).toList = ns := by rw [← e]; exact rv.ints.numsOf
    rw [nums_intItems] at hn
    rw [e] at hl
    refine PySem.W.ktm_sumG (I.ok.hd hc) hl fun h' tk t' hk => ⟨.int _, H, I.kept hk, ⟨t', ?_⟩, q⟩
    rw [preSum_eq, List.take_of_length_le (by simp), hn]
def sumTD : D → Option D
  | .lst xs => (intsOf xs).map fun l => .int (sumI l)
  | .tup xs => (intsOf xs).map fun l => .int (sumI l)
  | _ => none
theorem p_sumT (hB : BX B X) : PrimA B W (rSumT X.K) (rdA1 sumTD) := pA1 fun F H v a z Q f l e R => by
  cases l with
  | lst q r =>
    simp only [sumTD, Option.map_eq_some_iff] at e
    obtain ⟨ns, h, rfl⟩ := e
    refine ⟨_, ns, rfl, .inl (.inl (by rw [← ints_rel r h]; exact q)), ?_⟩
    rw [sumI_eq]; exact R.old _ (.int _)
  | tup q r =>
    simp only [sumTD, Option.map_eq_some_iff] at e
    obtain ⟨ns, h, rfl⟩ := e
    refine ⟨_, ns, rfl, .inr (by rw [← ints_rel r h]; exact hB.K ▸ SqT.same f q), ?_⟩
    rw [sumI_eq]; exact R.old _ (.int _)
  | _ => cases e
end
end Dn

set_option Elab.async false
set_option linter.all false
set_option maxRecDepth 100000
set_option maxHeartbeats 2000000
/-! Dn: list(zip(a, b)): a zip whose first pair is still held. -/
namespace Dn
open PySem PySem.Spec L2 PyProof.Rows

theorem zip_no_len : typeLookup (.type "zip") "__len__" = pure none := by rw [typeLookup_type, builtinLookup_eq_fast]; kernel_rfl
theorem zip_no_hint : typeLookup (.type "zip") "__length_hint__" = pure none := by rw [typeLookup_type, builtinLookup_eq_fast]; kernel_rfl
abbrev ZipT (h : Heap) (z TI TO T : Addr) (f : Bool) : Prop :=
  h.get? z = some { cls := .type "zip", dict := none, data := .fields #[rawInt T, .bool f, .bool false, .ref TI, .ref TO], slots := #[] }
section
variable {prog : Program} {w : World} {A : Around} {E : Value → Shared → Prop} {s : Shared}
theorem zip_next_out {z TI TO i1 i2 l1 l2 T : Addr} {f : Bool} {oT : Obj} {k1 k2 : Nat} {xs ys : Array Value} {x y : Value} {Q : Value → Shared → Prop} (D : ZipApart z TI TO i1 i2 l1 l2)
    (hz : ZipT s.heap z TI TO T f) (hT : s.heap.get? T = some oT) (hTz : T ≠ z) (hTI : IsPair s.heap TI (.ref i1) (.ref i2))
    (h1 : s.heap.IsListIter i1 l1 k1) (h2 : s.heap.IsListIter i2 l2 k2) (hl1 : s.heap.IsList l1 xs) (hl2 : s.heap.IsList l2 ys) (hx : xs[k1]? = some x) (hy : ys[k2]? = some y)
    (hQ : ∀ h', ZipT h' z TI TO T true → h'.IsListIter i1 l1 (k1 + 1) → h'.IsListIter i2 l2 (k2 + 1) → IsPair h' s.heap.objs.size x y → h'.objs.size = s.heap.objs.size + 1 →
      (∀ c o, c ≠ z → c ≠ i1 → c ≠ i2 → s.heap.get? c = some o → h'.get? c = some o) → Q (.ref s.heap.objs.size) { s with heap := h' }) :
    wpAny (model prog w) A (Builtin.«zip.__next__» ⟨[.ref z], []⟩) (fun fin s' => ∃ v, fin = .done (.ret v) ∧ Q v s') E s := by
  obtain ⟨hp, g, dr, tk, os⟩ := s
  show wpAny _ _ (field (.ref z) 2 >>= _) _ _ _
  refine wpAny_bind (wpAny_field hz rfl (x := .bool false) rfl ?_)
  show wpAny _ _ (field (.ref z) 3 >>= _) _ _ _
  refine wpAny_bind (wpAny_field hz rfl (x := .ref TI) rfl ?_)
  refine wpAny_bind (wpAny_seqItems hTI rfl ?_)
  show wpAny _ _ (Builtin.SmallTypes.ownedTupleIsFree (.ref z) >>= _) _ _ _
  have own : wpAny (model prog w) A (Builtin.SmallTypes.ownedTupleIsFree (.ref z)) (fun b s' => b = false ∧ ∃ h₃, s' = (⟨h₃, g, dr, tk, os⟩ : Shared) ∧ ZipT h₃ z TI TO T true ∧ Heap.SameBut z hp h₃) E ⟨hp, g, dr, tk, os⟩ := by
    unfold Builtin.SmallTypes.ownedTupleIsFree
    refine wpAny_bind (wpAny_field hz rfl (x := rawInt T) rfl ?_)
    show wpAny _ _ (loadIfAlive ((T : Int).toNat) >>= _) _ _ _
    rw [Int.toNat_natCast]
    refine wpAny_bind (PySem.W.kdx_alive hT ?_)
    simp only [Option.isNone_some, Bool.false_eq_true, if_false]
    refine wpAny_bind (wpAny_field hz rfl (x := .bool f) rfl ?_)
    cases f with
    | true =>
      rw [if_neg (show ¬ ((Value.bool true != Value.bool true) = true) from Bool.false_ne_true)]
      exact wpAny_pure ⟨rfl, hp, rfl, hz, Heap.SameBut.refl _ _⟩
    | false =>
      rw [if_pos (show (Value.bool false != Value.bool true) = true from rfl)]
      refine wpAny_bind (wpAny_setField_rec hz (by simp) fun h₃ he₃ hs₃ => ?_)
      exact wpAny_pure ⟨rfl, h₃, rfl, he₃, hs₃⟩
  refine wpAny_bind (wpAny_mono own (fun b s' h => ?_) fun _ _ e => e)
  obtain ⟨rfl, h₁, rfl, hz₁, hs₁⟩ := h
  simp only [Bool.false_eq_true, if_false, List.forIn_toArray, List.forIn_cons, List.forIn_nil]
  refine wpAny_bind ?_
  refine wpAny_bind ?_
  refine wpAny_bind (wpAny_holding ?_)
  show wpAny _ _ (Builtin.SmallTypes.nextOf (.ref i1) >>= _) _ _ _
  refine wpAny_bind (wpAny_nextOf_list_item (h1.extBut hs₁.extBut D.i1z) (hl1.extBut hs₁.extBut D.l1z) hx fun h₂ h1₂ hs₂ => wpAny_pure ?_)
  refine wpAny_pure ?_
  refine wpAny_bind ?_
  refine wpAny_bind (wpAny_holding ?_)
  show wpAny _ _ (Builtin.SmallTypes.nextOf (.ref i2) >>= _) _ _ _
  refine wpAny_bind (wpAny_nextOf_list_item ((h2.extBut hs₁.extBut D.i2z).extBut hs₂.extBut D.i12.symm) ((hl2.extBut hs₁.extBut D.l2z).extBut hs₂.extBut D.l2i1) hy fun h₃ h2₃ hs₃ => wpAny_pure ?_)
  refine wpAny_pure (wpAny_pure ?_)
  show wpAny _ _ (newTuple [x, y] >>= _) _ _ _
  refine wpAny_bind (wpAny_newTuple ?_)
  refine wpAny_pure ⟨_, rfl, ?_⟩
  have hsz : h₃.objs.size = hp.objs.size := by rw [hs₃.1, hs₂.1, hs₁.1]
  have hk : ∀ c o, c ≠ z → c ≠ i1 → c ≠ i2 → hp.get? c = some o → h₃.get? c = some o := fun c o c1 c2 c3 e => hs₃.extBut _ _ c3 (hs₂.extBut _ _ c2 (hs₁.extBut _ _ c1 e))
  have hz₃ : ZipT h₃ z TI TO T true := hs₃.extBut _ _ D.i2z.symm (hs₂.extBut _ _ D.i1z.symm hz₁)
  have h1₃ : h₃.IsListIter i1 l1 (k1 + 1) := h1₂.extBut hs₃.extBut D.i12
  show Q (.ref h₃.objs.size) _
  rw [hsz]
  refine hQ _ (Heap.get?_push_of_some _ hz₃) (h1₃.at fun o e => Heap.get?_push_of_some _ e) (h2₃.at fun o e => Heap.get?_push_of_some _ e) ?_ (by rw [Heap.size_push, hsz]) fun c o c1 c2 c3 e => Heap.get?_push_of_some _ (hk c o c1 c2 c3 e)
  show (h₃.push _).get? hp.objs.size = _
  rw [← hsz]
  exact Heap.get?_push_size _ rfl
theorem zip_end_out {z TI TO i1 i2 l1 l2 T : Addr} {f : Bool} {oT : Obj} {k1 k2 : Nat} {xs ys : Array Value} {Q : Fin → Shared → Prop} (hh : A.handled = none) (D : ZipApart z TI TO i1 i2 l1 l2)
    (hz : ZipT s.heap z TI TO T f) (hT : s.heap.get? T = some oT) (hTI : IsPair s.heap TI (.ref i1) (.ref i2))
    (h1 : s.heap.IsListIter i1 l1 k1) (h2 : s.heap.IsListIter i2 l2 k2) (hl1 : s.heap.IsList l1 xs) (hl2 : s.heap.IsList l2 ys) (hend : xs[k1]? = none ∨ ys[k2]? = none)
    (hE : ∀ h' e, (∀ c o, c ≠ z → c ≠ i1 → c ≠ i2 → s.heap.get? c = some o → h'.get? c = some o) → (∃ o, h'.get? e = some o ∧ o.cls = .type "StopIteration") → E (.ref e) { s with heap := h' }) :
    wpAny (model prog w) A (Builtin.«zip.__next__» ⟨[.ref z], []⟩) Q E s := by
  obtain ⟨hp, g, dr, tk, os⟩ := s
  show wpAny _ _ (field (.ref z) 2 >>= _) _ _ _
  refine wpAny_bind (wpAny_field hz rfl (x := .bool false) rfl ?_)
  show wpAny _ _ (field (.ref z) 3 >>= _) _ _ _
  refine wpAny_bind (wpAny_field hz rfl (x := .ref TI) rfl ?_)
  refine wpAny_bind (wpAny_seqItems hTI rfl ?_)
  show wpAny _ _ (Builtin.SmallTypes.ownedTupleIsFree (.ref z) >>= _) _ _ _
  have own : wpAny (model prog w) A (Builtin.SmallTypes.ownedTupleIsFree (.ref z)) (fun b s' => b = false ∧ ∃ h₃, s' = (⟨h₃, g, dr, tk, os⟩ : Shared) ∧ Heap.SameBut z hp h₃) E ⟨hp, g, dr, tk, os⟩ := by
    unfold Builtin.SmallTypes.ownedTupleIsFree
    refine wpAny_bind (wpAny_field hz rfl (x := rawInt T) rfl ?_)
    show wpAny _ _ (loadIfAlive ((T : Int).toNat) >>= _) _ _ _
    rw [Int.toNat_natCast]
    refine wpAny_bind (PySem.W.kdx_alive hT ?_)
    simp only [Option.isNone_some, Bool.false_eq_true, if_false]
    refine wpAny_bind (wpAny_field hz rfl (x := .bool f) rfl ?_)
    cases f with
    | true =>
      rw [if_neg (show ¬ ((Value.bool true != Value.bool true) = true) from Bool.false_ne_true)]
      exact wpAny_pure ⟨rfl, hp, rfl, Heap.SameBut.refl _ _⟩
    | false =>
      rw [if_pos (show (Value.bool false != Value.bool true) = true from rfl)]
      refine wpAny_bind (wpAny_setField_rec hz (by simp) fun h₃ he₃ hs₃ => ?_)
      exact wpAny_pure ⟨rfl, h₃, rfl, hs₃⟩
  refine wpAny_bind (wpAny_mono own (fun b s' h => ?_) fun _ _ e => e)
  obtain ⟨rfl, h₁, rfl, hs₁⟩ := h
  simp only [Bool.false_eq_true, if_false, List.forIn_toArray, List.forIn_cons, List.forIn_nil]
  refine wpAny_bind ?_
  refine wpAny_bind ?_
  refine wpAny_bind (wpAny_holding ?_)
  show wpAny _ _ (Builtin.SmallTypes.nextOf (.ref i1) >>= _) _ _ _
  cases hx : xs[k1]? with
  | none =>
    refine wpAny_bind (wpAny_nextOf_list_end hh (h1.extBut hs₁.extBut D.i1z) (hl1.extBut hs₁.extBut D.l1z) hx fun h₂ e hs₂ he => ?_)
    exact hE h₂ e (fun c o c1 c2 _ x => hs₂ _ _ c2 (hs₁.extBut _ _ c1 x)) he
  | some x =>
    have hy : ys[k2]? = none := by rcases hend with h | h; rw [hx] at h; cases h; exact h
    refine wpAny_bind (wpAny_nextOf_list_item (h1.extBut hs₁.extBut D.i1z) (hl1.extBut hs₁.extBut D.l1z) hx fun h₂ h1₂ hs₂ => wpAny_pure ?_)
    refine wpAny_pure ?_
    refine wpAny_bind ?_
    refine wpAny_bind (wpAny_holding ?_)
    show wpAny _ _ (Builtin.SmallTypes.nextOf (.ref i2) >>= _) _ _ _
    refine wpAny_bind (wpAny_nextOf_list_end hh ((h2.extBut hs₁.extBut D.i2z).extBut hs₂.extBut D.i12.symm) ((hl2.extBut hs₁.extBut D.l2z).extBut hs₂.extBut D.l2i1) hy fun h₃ e hs₃ he => ?_)
    exact hE h₃ e (fun c o c1 c2 c3 x => hs₃ _ _ c3 (hs₂.extBut _ _ c2 (hs₁.extBut _ _ c1 x))) he
theorem pyNext_zip_out {z TI TO i1 i2 l1 l2 T : Addr} {f : Bool} {oT : Obj} {k1 k2 : Nat} {xs ys : Array Value} {x y : Value} {Q : Option Value → Shared → Prop} (D : ZipApart z TI TO i1 i2 l1 l2)
    (hz : ZipT s.heap z TI TO T f) (hT : s.heap.get? T = some oT) (hTz : T ≠ z) (hTI : IsPair s.heap TI (.ref i1) (.ref i2))
    (h1 : s.heap.IsListIter i1 l1 k1) (h2 : s.heap.IsListIter i2 l2 k2) (hl1 : s.heap.IsList l1 xs) (hl2 : s.heap.IsList l2 ys) (hx : xs[k1]? = some x) (hy : ys[k2]? = some y)
    (hQ : ∀ h', ZipT h' z TI TO T true → h'.IsListIter i1 l1 (k1 + 1) → h'.IsListIter i2 l2 (k2 + 1) → IsPair h' s.heap.objs.size x y → h'.objs.size = s.heap.objs.size + 1 →
      (∀ c o, c ≠ z → c ≠ i1 → c ≠ i2 → s.heap.get? c = some o → h'.get? c = some o) → Q (some (.ref s.heap.objs.size)) { s with heap := h' }) :
    wpAny (model prog w) A (pyNext (.ref z)) Q E s := by
  have hTy : s.TypeIs (.ref z) "zip" := ⟨_, hz, rfl⟩
  unfold pyNext
  exact wpAny_bind (wpAny_attempt (wpAny_callSpecial?_slot (name := Str.ofString "__next__") hTy F.slot_zip_next
    (wpAny_call_entry F.slot_zip_next hTy F.entry_zip_next
      (zip_next_out D hz hT hTz hTI h1 h2 hl1 hl2 hx hy fun h' a1 a2 a3 a4 a5 a6 => wpAny_pure (hQ h' a1 a2 a3 a4 a5 a6)) (F.args_zip_next_1 _))))
theorem pyNext_zip_done {z TI TO i1 i2 l1 l2 T : Addr} {f : Bool} {oT : Obj} {k1 k2 : Nat} {xs ys : Array Value} {Q : Option Value → Shared → Prop} (hh : A.handled = none) (D : ZipApart z TI TO i1 i2 l1 l2)
    (hz : ZipT s.heap z TI TO T f) (hT : s.heap.get? T = some oT) (hTI : IsPair s.heap TI (.ref i1) (.ref i2))
    (h1 : s.heap.IsListIter i1 l1 k1) (h2 : s.heap.IsListIter i2 l2 k2) (hl1 : s.heap.IsList l1 xs) (hl2 : s.heap.IsList l2 ys) (hend : xs[k1]? = none ∨ ys[k2]? = none)
    (hQ : ∀ h', (∀ c o, c ≠ z → c ≠ i1 → c ≠ i2 → s.heap.get? c = some o → h'.get? c = some o) → Q none { s with heap := h' }) : wpAny (model prog w) A (pyNext (.ref z)) Q E s := by
  have hTy : s.TypeIs (.ref z) "zip" := ⟨_, hz, rfl⟩
  unfold pyNext
  refine wpAny_bind (wpAny_attempt (wpAny_callSpecial?_slot (name := Str.ofString "__next__") hTy F.slot_zip_next
    (wpAny_call_entry F.slot_zip_next hTy F.entry_zip_next (zip_end_out hh D hz hT hTI h1 h2 hl1 hl2 hend fun h' e hk he => ?_) (F.args_zip_next_1 _))))
  obtain ⟨o, ho, hc⟩ := he
  refine wpAny_bind (wpAny_isInstance (T := "StopIteration") (b := true) ⟨o, ho, hc⟩ isSubtype_stop ?_)
  exact wpAny_pure (hQ _ hk)
structure ZSt (h : Heap) (z TI TO i1 i2 l1 l2 S : Addr) (xs ys : Array Value) (i : Nat) : Prop where
  pT : IsPair h TI (.ref i1) (.ref i2)
  pi1 : h.IsListIter i1 l1 i
  pi2 : h.IsListIter i2 l2 i
  pl1 : h.IsList l1 xs
  pl2 : h.IsList l2 ys
  zip : (IsZip h z TI TO .none ∧ ∃ a b, IsPair h TO a b) ∨ ∃ T f oT, ZipT h z TI TO T f ∧ h.get? T = some oT ∧ T ≠ z ∧ T ≠ S
variable {z TI TO i1 i2 l1 l2 S : Addr} {xs ys : Array Value} {i : Nat}
structure Low (z TI TO i1 i2 l1 l2 S : Addr) : Prop where
  z : z < S
  TI : TI < S
  TO : TO < S
  i1 : i1 < S
  i2 : i2 < S
  l1 : l1 < S
  l2 : l2 < S
theorem ZSt.keep {h h' : Heap} (x : ZSt h z TI TO i1 i2 l1 l2 S xs ys i) (L : Low z TI TO i1 i2 l1 l2 S) (hk : ∀ b o, b ≠ S → h.get? b = some o → h'.get? b = some o) : ZSt h' z TI TO i1 i2 l1 l2 S xs ys i := by
  refine ⟨hk _ _ (Nat.ne_of_lt L.TI) x.pT, x.pi1.at fun o e => hk _ o (Nat.ne_of_lt L.i1) e, x.pi2.at fun o e => hk _ o (Nat.ne_of_lt L.i2) e, x.pl1.at fun o e => hk _ o (Nat.ne_of_lt L.l1) e, x.pl2.at fun o e => hk _ o (Nat.ne_of_lt L.l2) e, ?_⟩
  rcases x.zip with ⟨h1, a, b, h2⟩ | ⟨T, f, oT, h1, h2, h3, h4⟩
  · exact .inl ⟨hk _ _ (Nat.ne_of_lt L.z) h1, a, b, hk _ _ (Nat.ne_of_lt L.TO) h2⟩
  · exact .inr ⟨T, f, oT, hk _ _ (Nat.ne_of_lt L.z) h1, hk _ _ h4 h2, h3, h4⟩
theorem zst_item {x y : Value} {Q : Option Value → Shared → Prop} (D : ZipApart z TI TO i1 i2 l1 l2) (hst : ZSt s.heap z TI TO i1 i2 l1 l2 S xs ys i) (hS : S < s.heap.objs.size) (hx : xs[i]? = some x) (hy : ys[i]? = some y)
    (hQ : ∀ h', ZSt h' z TI TO i1 i2 l1 l2 S xs ys (i + 1) → IsPair h' s.heap.objs.size x y → h'.objs.size = s.heap.objs.size + 1 →
      (∀ c o, c ≠ z → c ≠ TO → c ≠ i1 → c ≠ i2 → s.heap.get? c = some o → h'.get? c = some o) → Q (some (.ref s.heap.objs.size)) { s with heap := h' }) :
    wpAny (model prog w) A (pyNext (.ref z)) Q E s := by
  rcases hst.zip with ⟨h1, a, b, h2⟩ | ⟨T, f, oT, h1, h2, h3, h4⟩
  · refine wpAny_pyNext_zip_item D h1 hst.pT h2 hst.pi1 hst.pi2 hst.pl1 hst.pl2 hx hy fun h' a1 a2 a3 a4 a5 a6 hk => ?_
    refine hQ h' ⟨hk _ _ D.TIz D.TITO D.TIi1 D.TIi2 hst.pT, a3, a4, hst.pl1.at fun o e => hk _ o D.l1z D.l1TO D.l1i1 D.l1i2 e, hst.pl2.at fun o e => hk _ o D.l2z D.l2TO D.l2i1 D.l2i2 e, .inr ⟨s.heap.objs.size, false, _, a1, a5, Nat.ne_of_gt (Heap.lt_size h1), Nat.ne_of_gt hS⟩⟩ a5 a6 hk
  · refine pyNext_zip_out D h1 h2 h3 hst.pT hst.pi1 hst.pi2 hst.pl1 hst.pl2 hx hy fun h' a1 a3 a4 a5 a6 hk => ?_
    have hT' : ∃ o, h'.get? T = some o := by
      by_cases e1 : T = i1
      · subst e1; obtain ⟨o, q, _⟩ := a3; exact ⟨o, q⟩
      · by_cases e2 : T = i2
        · subst e2; obtain ⟨o, q, _⟩ := a4; exact ⟨o, q⟩
        · exact ⟨oT, hk T oT h3 e1 e2 h2⟩
    obtain ⟨oT', hT'⟩ := hT'
    exact hQ h' ⟨hk _ _ D.TIz D.TIi1 D.TIi2 hst.pT, a3, a4, hst.pl1.at fun o e => hk _ o D.l1z D.l1i1 D.l1i2 e, hst.pl2.at fun o e => hk _ o D.l2z D.l2i1 D.l2i2 e, .inr ⟨T, true, oT', a1, hT', h3, h4⟩⟩ a5 a6 fun c o c1 _ c3 c4 e => hk c o c1 c3 c4 e
theorem zst_done {Q : Option Value → Shared → Prop} (hh : A.handled = none) (D : ZipApart z TI TO i1 i2 l1 l2) (hst : ZSt s.heap z TI TO i1 i2 l1 l2 S xs ys i) (hend : xs[i]? = none ∨ ys[i]? = none)
    (hQ : ∀ h', (∀ c o, c ≠ z → c ≠ TO → c ≠ i1 → c ≠ i2 → s.heap.get? c = some o → h'.get? c = some o) → Q none { s with heap := h' }) : wpAny (model prog w) A (pyNext (.ref z)) Q E s := by
  rcases hst.zip with ⟨h1, a, b, h2⟩ | ⟨T, f, oT, h1, h2, h3, h4⟩
  · exact wpAny_pyNext_zip_end hh D h1 hst.pT h2 hst.pi1 hst.pi2 hst.pl1 hst.pl2 hend hQ
  · exact pyNext_zip_done hh D h1 h2 hst.pT hst.pi1 hst.pi2 hst.pl1 hst.pl2 hend fun h' hk => hQ h' fun c o c1 _ c3 c4 e => hk c o c1 c3 c4 e
structure ZG (xs ys : Array Value) (lo : Addr) (h : Heap) (as : List Addr) : Prop where
  rise : as.Pairwise (· < ·)
  above : ∀ a ∈ as, lo < a
  pairs : ∀ (j : Nat) (a : Addr), as[j]? = some a → ∃ x y, xs[j]? = some x ∧ ys[j]? = some y ∧ IsPair h a x y
theorem ZG.there {lo : Addr} {h : Heap} {as : List Addr} (g : ZG xs ys lo h as) {a : Addr} (ha : a ∈ as) : a < h.objs.size := by
  obtain ⟨j, hj⟩ := List.mem_iff_getElem?.mp ha
  obtain ⟨_, _, _, _, e⟩ := g.pairs j a hj
  exact Heap.lt_size e
end
section
variable {prog : Program} {w : World} {A : Around} {s : Shared} {R : Result → Shared → Prop} {z TI TO i1 i2 l1 l2 S : Addr} {xs ys : Array Value}
theorem zip_loop (hh : A.handled = none) (D : ZipApart z TI TO i1 i2 l1 l2) (L : Low z TI TO i1 i2 l1 l2 S) (hxy : xs.size = ys.size) (hn : xs.size ≤ sizeLine) (res : Value) {h₁ : Heap}
    (hR : ∀ h' tk acc c as, (∀ b o, b ≠ S → b ≠ z → b ≠ TO → b ≠ i1 → b ≠ i2 → h₁.get? b = some o → h'.get? b = some o) → h'.get? S = some { cls := .type "list", dict := none, data := .seq acc c, slots := #[] } → as.length = xs.size → ZG xs ys S h' as →
      acc.toList = as.map Value.ref → R (.ok (.ret res)) { s with heap := h', toks := tk }) :
    ∀ (k i : Nat) (h : Heap) (tk c : Nat) (acc : Array Value) (as : List Addr), xs.size - i = k → i ≤ xs.size → ZSt h z TI TO i1 i2 l1 l2 S xs ys i → (∀ b o, b ≠ S → b ≠ z → b ≠ TO → b ≠ i1 → b ≠ i2 → h₁.get? b = some o → h.get? b = some o) →
      h.get? S = some { cls := .type "list", dict := none, data := .seq acc c, slots := #[] } → acc.toList = as.map Value.ref → as.length = i → ZG xs ys S h as →
      codeAny (model prog w) A (.builtin "list.extend.loop" ⟨[.ref S, .ref z, res], []⟩) R { s with heap := h, toks := tk } := by
  have nz : S ≠ z := Nat.ne_of_gt L.z
  have nTO : S ≠ TO := Nat.ne_of_gt L.TO
  have n1 : S ≠ i1 := Nat.ne_of_gt L.i1
  have n2 : S ≠ i2 := Nat.ne_of_gt L.i2
  intro k
  induction k with
  | zero =>
    intro i h tk c acc as hk hi hst hkeep hS hacc hal hG
    have hin : i = xs.size := by omega
    refine codeAny_builtin PySem.F.entry_extend_loop ?_
    rw [Around.under_plainId PySem.F.plain_extend_loop _]
    show wpAny _ A.in1 (pyNext (.ref z) >>= _) _ _ _
    refine wpAny_bind (zst_done (s := { s with heap := h, toks := tk }) (A := A.in1) hh D hst (.inl (Array.getElem?_eq_none (by omega))) fun h' he => ?_)
    refine wpAny_pure (hR h' tk acc c as (fun b o b0 b1 b2 b3 b4 e => he b o b1 b2 b3 b4 (hkeep b o b0 b1 b2 b3 b4 e)) (he S _ nz nTO n1 n2 hS) (by omega) ⟨hG.rise, hG.above, fun j a hj => ?_⟩ hacc)
    obtain ⟨x, y, e1, e2, e3⟩ := hG.pairs j a hj
    have ha := hG.above a (List.mem_of_getElem? hj)
    exact ⟨x, y, e1, e2, he a _ (Nat.ne_of_gt (Nat.lt_trans L.z ha)) (Nat.ne_of_gt (Nat.lt_trans L.TO ha)) (Nat.ne_of_gt (Nat.lt_trans L.i1 ha)) (Nat.ne_of_gt (Nat.lt_trans L.i2 ha)) e3⟩
  | succ k ih =>
    intro i h tk c acc as hk hi hst hkeep hS hacc hal hG
    have hlt : i < xs.size := by omega
    have hlt2 : i < ys.size := by omega
    have hx : xs[i]? = some xs[i] := Array.getElem?_eq_getElem hlt
    have hy : ys[i]? = some ys[i] := Array.getElem?_eq_getElem hlt2
    have hsz : acc.size = i := by rw [← Array.length_toList, hacc, List.length_map, hal]
    refine codeAny_builtin PySem.F.entry_extend_loop ?_
    rw [Around.under_plainId PySem.F.plain_extend_loop _]
    show wpAny _ A.in1 (pyNext (.ref z) >>= _) _ _ _
    refine wpAny_bind (zst_item (s := { s with heap := h, toks := tk }) D hst (Heap.lt_size hS) hx hy fun h' hst' ht hz hkp => ?_)
    dsimp only at ht hz hkp ⊢
    have hS' := hkp S _ nz nTO n1 n2 hS
    have up : ∀ b o, b ≠ S → h'.get? b = some o → (h'.update S (Obj.mapSeq (·.push (Value.ref h.objs.size)))).get? b = some o := fun b o hb e => (Heap.get?_update_other _ _ (Ne.symm hb)).trans e
    have hSl : S < h.objs.size := Heap.lt_size hS
    show wpAny _ A.in1 (updateSeq S (·.push (Value.ref h.objs.size)) >>= _) _ _ _
    refine wpAny_bind ?_
    refine wpAny_updateSeq hS' rfl (wpAny_pure ⟨plainId_quiet PySem.F.plain_extend_loop _, ih (i + 1) _ tk _ (acc.push (Value.ref h.objs.size)) (as ++ [h.objs.size]) (by omega) hlt (hst'.keep L up)
      (fun b o b0 b1 b2 b3 b4 e => up b o b0 (hkp b o b1 b2 b3 b4 (hkeep b o b0 b1 b2 b3 b4 e))) (Heap.get?_update_self _ hS' rfl) (by rw [Array.toList_push, hacc, List.map_append]; rfl) (by rw [List.length_append, hal]; rfl) ⟨?_, ?_, ?_⟩⟩) (by rw [hsz]; omega) (by show (acc.push (Value.ref h.objs.size)).size ≤ sizeLine + 1; rw [Array.size_push, hsz]; omega)
    · refine List.pairwise_append.mpr ⟨hG.rise, List.pairwise_singleton _ _, fun a ha b hb => ?_⟩
      rw [List.mem_singleton.mp hb]
      exact hG.there ha
    · intro a ha
      rcases List.mem_append.mp ha with ha | ha
      · exact hG.above a ha
      · rw [List.mem_singleton.mp ha]; exact hSl
    · intro j b hj
      rcases Nat.lt_trichotomy j as.length with q | q | q
      · rw [List.getElem?_append_left q] at hj
        obtain ⟨x', y', e1, e2, e3⟩ := hG.pairs j b hj
        have hb := hG.above b (List.mem_of_getElem? hj)
        exact ⟨x', y', e1, e2, up b _ (Nat.ne_of_gt hb) (hkp b _ (Nat.ne_of_gt (Nat.lt_trans L.z hb)) (Nat.ne_of_gt (Nat.lt_trans L.TO hb)) (Nat.ne_of_gt (Nat.lt_trans L.i1 hb)) (Nat.ne_of_gt (Nat.lt_trans L.i2 hb)) e3)⟩
      · subst q
        have hb : h.objs.size = b := by simpa using hj
        subst hb
        exact ⟨_, _, by rw [hal]; exact hx, by rw [hal]; exact hy, up _ _ (Nat.ne_of_gt hSl) ht⟩
      · have hnone : (as ++ [h.objs.size])[j]? = none := List.getElem?_eq_none (by rw [List.length_append, List.length_singleton]; omega)
        rw [hnone] at hj; cases hj
end
section
variable {prog : Program} {w : World} {A : Around} {s : Shared} {R : Result → Shared → Prop} {z TI TO i1 i2 l1 l2 S : Addr} {xs ys : Array Value}
theorem zip_extend (hh : A.handled = none) (D : ZipApart z TI TO i1 i2 l1 l2) (L : Low z TI TO i1 i2 l1 l2 S) (hxy : xs.size = ys.size) (hn : xs.size ≤ sizeLine) (res : Value) (c₀ : Nat)
    (hst : ZSt s.heap z TI TO i1 i2 l1 l2 S xs ys 0) (hT : s.TypeIs (.ref z) "zip") (hf : ∃ f0, IsZip s.heap z TI TO f0) (hS : s.heap.get? S = some { cls := .type "list", data := .seq #[] c₀ })
    (hR : ∀ h' tk acc c as, (∀ b o, b ≠ S → b ≠ z → b ≠ TO → b ≠ i1 → b ≠ i2 → s.heap.get? b = some o → h'.get? b = some o) → h'.get? S = some { cls := .type "list", dict := none, data := .seq acc c, slots := #[] } → as.length = xs.size → ZG xs ys S h' as →
      acc.toList = as.map Value.ref → R (.ok (.ret res)) { s with heap := h', toks := tk }) :
    wpAny (model prog w) A.in1 (Builtin.List.listExtendWith (.ref S) (.ref z) res)
      (fun fin s' => match fin with | .done f => R (.ok f) s' | .again c' => c'.quiet = true ∧ codeAny (model prog w) A c' R s') (fun e s' => R (.error e) s') s := by
  have hSI : S ≠ z := Nat.ne_of_gt L.z
  obtain ⟨f0, hz⟩ := hf
  unfold Builtin.List.listExtendWith
  refine wpAny_bind (wpAny_typeOf hT ?_)
  have h1 : Builtin.List.listSameRef (.ref S) (.ref z) = false := by simp [Builtin.List.listSameRef, hSI]
  have h2 : (Value.type "zip" == Value.type "list") = false := by decide
  have h3 : (Value.type "zip" == Value.type "tuple") = false := by decide
  simp only [h1, h2, h3, Bool.or_false, Bool.false_eq_true, if_false]
  refine wpAny_bind (wpAny_pyIter_zip hz ?_)
  refine wpAny_bind (wpAny_holding ?_)
  unfold Builtin.List.listLengthHint
  refine wpAny_bind (wpAny_specialOf hT zip_no_len ?_)
  show wpAny _ A.in1 (specialOf (Value.ref z) (Str.ofString "__length_hint__") >>= _) _ _ _
  refine wpAny_bind (wpAny_specialOf hT zip_no_hint ?_)
  refine wpAny_pure ?_
  show wpAny _ A.in1 (rule "list.extend.makes-room" >>= fun _ => Builtin.List.listTouch (.ref S) >>= fun _ =>
    again (.builtin "list.extend.loop" ⟨[.ref S, .ref z, res], []⟩)) _ _ _
  refine wpAny_bind (wpAny_rule ?_)
  refine wpAny_bind ?_
  show wpAny _ A.in1 (updateSeq S (·.push .none) >>= fun _ => updateSeq S (·.pop)) _ _ _
  refine wpAny_bind (wpAny_updateSeq hS rfl ?_)
  have hS₂ := Heap.get?_update_self (Obj.mapSeq (·.push Value.none)) hS rfl
  refine wpAny_updateSeq (hz := by seq_fits) hS₂ rfl ?_
  have hS₃ := Heap.get?_update_self (Obj.mapSeq (·.pop)) hS₂ rfl
  have oth : ∀ b o, b ≠ S → s.heap.get? b = some o → ((s.heap.update S (Obj.mapSeq (·.push Value.none))).update S (Obj.mapSeq (·.pop))).get? b = some o :=
    fun b o hb e => (Heap.get?_update_other _ _ (Ne.symm hb)).trans ((Heap.get?_update_other _ _ (Ne.symm hb)).trans e)
  exact wpAny_pure ⟨plainId_quiet PySem.F.plain_extend_loop _, zip_loop (s := s) hh D L hxy hn res hR xs.size 0 _ s.toks _ _ [] rfl (Nat.zero_le _) (hst.keep L oth) (fun b o b0 _ _ _ _ e => oth b o b0 e) hS₃ rfl rfl ⟨.nil, (fun a ha => by cases ha), (fun j a hj => by simp at hj)⟩⟩
end
section
variable {prog : Program} {w : World} {A : Around} {E : Value → Shared → Prop} {s : Shared} {z TI TO i1 i2 l1 l2 : Addr} {xs ys : Array Value}
theorem call_list_zip {Q : Value → Shared → Prop} (hh : A.handled = none) (D : ZipApart z TI TO i1 i2 l1 l2) (L : Low z TI TO i1 i2 l1 l2 s.heap.objs.size) (hxy : xs.size = ys.size) (hn : xs.size ≤ sizeLine)
    (hst : ZSt s.heap z TI TO i1 i2 l1 l2 s.heap.objs.size xs ys 0) (hf : ∃ f0, IsZip s.heap z TI TO f0)
    (hQ : ∀ h' tk acc c as, (∀ b o, b ≠ z → b ≠ TO → b ≠ i1 → b ≠ i2 → s.heap.get? b = some o → h'.get? b = some o) → h'.get? s.heap.objs.size = some { cls := .type "list", dict := none, data := .seq acc c, slots := #[] } → as.length = xs.size → ZG xs ys s.heap.objs.size h' as →
      acc.toList = as.map Value.ref → Q (.ref s.heap.objs.size) { s with heap := h', toks := tk }) :
    wpAny (model prog w) A (call (.type "list") [.ref z]) Q E s := by
  obtain ⟨f0, hz⟩ := hf
  refine callType_codes (Q₁ := fun obj s₁ => obj = .ref s.heap.objs.size ∧ s₁ = { s with heap := s.heap.push { cls := .type "list", data := .seq #[] } }) F.called_list (F.typeCall_list_1 _) F.entry_list_init
    (code_list_new _ ⟨rfl, rfl⟩) fun obj s₁ h₁ => ?_
  obtain ⟨rfl, rfl⟩ := h₁
  have hS : (s.heap.push { cls := .type "list", data := .seq #[] }).get? s.heap.objs.size = some { cls := .type "list", data := .seq #[] } := Heap.get?_push_size _ rfl
  refine ⟨⟨_, hS, rfl⟩, F.args_list_init_2 _ _, ?_⟩
  show wpAny _ A.in1.in1 (do let old ← Builtin.List.listItems (.ref s.heap.objs.size); Builtin.List.listUpdate (.ref s.heap.objs.size) (fun _ => #[]); letGo old.toList.reverse; Builtin.List.listExtendWith (.ref s.heap.objs.size) (.ref z) .none) _ _ _
  refine wpAny_bind ?_
  unfold Builtin.List.listItems
  refine wpAny_bind (wpAny_seqItems hS rfl (wpAny_pure ?_))
  show wpAny _ A.in1.in1 (updateSeq s.heap.objs.size (fun _ => #[]) >>= fun _ => letGo (#[] : Array Value).toList.reverse >>= fun _ => Builtin.List.listExtendWith (.ref s.heap.objs.size) (.ref z) .none) _ _ _
  refine wpAny_bind (wpAny_updateSeq hS rfl ?_)
  have hS₂ := Heap.get?_update_self (Obj.mapSeq (fun _ => (#[] : Array Value))) hS rfl
  have oth : ∀ b o, b ≠ s.heap.objs.size → s.heap.get? b = some o → ((s.heap.push { cls := .type "list", data := .seq #[] }).update s.heap.objs.size (Obj.mapSeq (fun _ => (#[] : Array Value)))).get? b = some o :=
    fun b o hb e => (Heap.get?_update_other _ _ (Ne.symm hb)).trans (Heap.get?_push_of_some _ e)
  refine wpAny_bind (wpAny_letGo ?_)
  have hz2 := oth z _ (Nat.ne_of_lt L.z) hz
  refine zip_extend (A := A.in1) hh D L hxy hn .none _ (hst.keep L oth) ⟨_, hz2, rfl⟩ ⟨f0, hz2⟩ hS₂ fun h' tk acc c as hk hS' ha hG hacc => ?_
  exact ⟨rfl, hQ h' tk acc c as (fun b o b1 b2 b3 b4 e => hk b o (Nat.ne_of_lt (Heap.lt_size e)) b1 b2 b3 b4 (oth b o (Nat.ne_of_lt (Heap.lt_size e)) e)) hS' ha hG hacc⟩
end
end Dn

set_option Elab.async false
set_option linter.all false
set_option maxRecDepth 100000
set_option maxHeartbeats 2000000
/-! Dn: list(zip(a, b)) as an expression. -/
namespace Dn
open PySem PySem.Spec L2 PyProof.Rows
/-- the pairs tracked at their addresses -/
def putZ : Hp → List Addr → List (V × V) → Hp
  | H, a :: as, p :: ps => putZ (upd H a (.tup [p.1, p.2])) as ps
  | H, _, _ => H
theorem putZ_off {b : Addr} : ∀ (as : List Addr) (ps : List (V × V)) (H : Hp), b ∉ as → putZ H as ps b = H b
  | [], _, _, _ => rfl
  | _ :: _, [], _, _ => rfl
  | a :: as, p :: ps, H, h => by
    show putZ (upd H a (.tup [p.1, p.2])) as ps b = H b
    rw [putZ_off as ps _ (fun z => h (List.mem_cons_of_mem _ z)), upd_ne (fun z => h (by rw [z]; exact List.mem_cons_self))]
theorem putZ_at : ∀ (as : List Addr) (ps : List (V × V)) (H : Hp), as.length = ps.length → as.Nodup → Paired (fun (t : Addr) (p : V × V) => putZ H as ps t = some (.tup [p.1, p.2])) as ps
  | [], [], _, _, _ => .nil
  | [], _ :: _, _, h, _ => by cases h
  | _ :: _, [], _, h, _ => by cases h
  | a :: as, p :: ps, H, h, hn => by
    have hn' := List.nodup_cons.mp hn
    have ih := putZ_at as ps (upd H a (.tup [p.1, p.2])) (Nat.succ.inj h) hn'.2
    refine .cons ?_ ih
    show putZ (upd H a (.tup [p.1, p.2])) as ps a = some (.tup [p.1, p.2])
    rw [putZ_off as ps _ hn'.1, upd_same]
section
variable {X : Cx}
theorem zip_laid {pins : List (Addr × Obj)} {σ : L2.St} {H : Hp} {s : Shared} {h' : Heap} {tk : Nat} {xs ys : List V} {its its2 : List Value} {acc : Array Value} {c : Nat} {as : List Addr} {S : Addr} (I : Inv X pins σ H s) (hx : Vals xs its) (hy : Vals ys its2) (hxy : xs.length = ys.length) (hz : xs.length ≤ sizeLine) (hS0 : s.heap.objs.size ≤ S)
    (hk : ∀ b o, s.heap.get? b = some o → h'.get? b = some o) (hS : h'.get? S = some { cls := .type "list", dict := none, data := .seq acc c, slots := #[] }) (hl : as.length = its.toArray.size) (hG : ZG its.toArray its2.toArray S h' as) (hacc : acc.toList = as.map Value.ref) :
    H S = none ∧ (∀ t ∈ as, H t = none) ∧ S ∉ as ∧ as.Nodup ∧ as.length = xs.length ∧ Inv X pins σ (upd (putZ H as (xs.zip ys)) S (.lst (as.map V.ref))) { s with heap := h', toks := tk } := by
  have lx := hx.length
  have lz : (xs.zip ys).length = xs.length := by rw [List.length_zip]; omega
  have hla : as.length = xs.length := by rw [hl, List.size_toArray]; omega
  have hSn : S ∉ as := fun z => Nat.lt_irrefl _ (hG.above _ z)
  have nd : as.Nodup := List.Pairwise.imp (fun {a b} (h : a < b) => Nat.ne_of_lt h) hG.rise
  have new : ∀ t ∈ as, H t = none := fun t ht => I.hok.fresh (Nat.le_trans hS0 (Nat.le_of_lt (hG.above t ht)))
  have newS : H S = none := I.hok.fresh hS0
  have atP := putZ_at as (xs.zip ys) H (by omega) nd
  have off : ∀ b, b ∉ as → b ≠ S → upd (putZ H as (xs.zip ys)) S (.lst (as.map V.ref)) b = H b := fun b h1 h2 => by rw [upd_ne h2, putZ_off as _ _ h1]
  have low : ∀ b o, s.heap.get? b = some o → b ∉ as ∧ b ≠ S := fun b o e => ⟨fun z => absurd (Heap.lt_size e) (Nat.not_lt.mpr (Nat.le_trans hS0 (Nat.le_of_lt (hG.above b z)))), fun z => absurd (Heap.lt_size e) (by rw [z]; exact Nat.not_lt.mpr hS0)⟩
  have kp : ∀ b u, H b = some u → upd (putZ H as (xs.zip ys)) S (.lst (as.map V.ref)) b = some u := fun b u e => by
    rw [off b (fun z => by rw [new b z] at e; cases e) (fun z => by rw [z, newS] at e; cases e)]
    exact e
  refine ⟨newS, new, hSn, nd, hla, ?_⟩
  refine I.call' (ch := []) rfl ⟨fun b o q _ _ _ => hk b o q, fun b o q _ _ _ => ⟨o.slots, hk b o q⟩, fun b o q n _ => ?_, fun b o q _ => ⟨o, hk b o q⟩, fun b xs q => kp b _ q, fun b o u q => kp b _ q, fun b ps q => ⟨#[], by rw [kp b _ q]; simp⟩⟩ (fun b u q => ?_) I.bare fun b z => by simp at z
  · obtain ⟨z1, z2⟩ := low b o q
    rw [off b z1 z2]
    exact n
  · by_cases hb2 : b = S
    · rw [hb2] at q ⊢
      rw [upd_same] at q
      cases q
      refine ⟨by rw [List.length_map]; omega, acc.toList, c, by rw [hacc]; exact LiI.vals_refs as, ?_⟩
      rw [Array.toArray_toList]
      exact hS
    · by_cases hb : b ∈ as
      · obtain ⟨j, pk, e1, e2, e3⟩ := LiI.paired_ix atP hb
        rw [upd_ne hb2, e3] at q
        cases q
        obtain ⟨x, y, f1, f2, f3⟩ := hG.pairs j b e1
        have e2' := List.getElem?_zip_eq_some.mp e2
        obtain ⟨u, g1, g2⟩ := hx.get e2'.1
        obtain ⟨v, g3, g4⟩ := hy.get e2'.2
        have f1 : its[j]? = some x := by simpa using f1
        have f2 : its2[j]? = some y := by simpa using f2
        rw [f1] at g1
        rw [f2] at g3
        cases g1
        cases g3
        exact ⟨by show 2 ≤ sizeLine; decide, [x, y], .cons g2 (.cons g4 .nil), ⟨_, f3, rfl, _, rfl⟩⟩
      · rw [off b hb hb2] at q
        exact (I.hok b u q).stay (fun d v _ y => hk d v y) (fun d y => kp d _ y) fun d xs y => kp d _ y
theorem low_of (n a b : Nat) (la : a < n) (lb : b < n) : Low (n + 4) (n + 2) (n + 3) n (n + 1) a b (n + 5) :=
  ⟨(by omega : (n + 4 : Nat) < n + 5), (by omega : (n + 2 : Nat) < n + 5), (by omega : (n + 3 : Nat) < n + 5), (by omega : (n : Nat) < n + 5), (by omega : (n + 1 : Nat) < n + 5), (by omega : (a : Nat) < n + 5), (by omega : (b : Nat) < n + 5)⟩
theorem ne_of_low (n b : Nat) (h : b < n) : b ≠ n + 4 ∧ b ≠ n + 3 ∧ b ≠ n ∧ b ≠ n + 1 := ⟨by omega, by omega, by omega, by omega⟩
def tListZip (K : PySem.W.Frag) (ta : TA) : TE := fun σ H Q => ta σ H fun vs H1 => ∃ a b xs ys, vs = [.ref a, .ref b] ∧ SqL K H1 a xs ∧ SqL K H1 b ys ∧ xs.length = ys.length ∧ ∀ (p : Addr) (ts : List Addr), H1 p = none → (∀ t ∈ ts, H1 t = none) → p ∉ ts → ts.Nodup → ts.length = xs.length → Q (.ref p) (upd (putZ H1 ts (xs.zip ys)) p (.lst (ts.map V.ref)))
theorem pe_listZip {e e2 : Expr} {ta : TA} {p p2 pos pos2 : Pos} (hc : X.calm = true) (hg : Gl X "list") (hm : X.mg "list" = none) (hg2 : Gl X "zip") (hm2 : X.mg "zip" = none) (ha : PA X [e, e2] ta)
    (hs : starEach [e, e2] X.env = (false, eval e X.env) :: starEach [e2] X.env := by rfl) (hpl : (backTo pos (starEach [e2] X.env)).any (·.1) = false := by rfl)
    (nc : starEach [Expr.Call (.Name "zip" p) [e, e2] [] pos] X.env = (false, eval (.Call (.Name "zip" p) [e, e2] [] pos) X.env) :: starEach [] X.env := by rfl) :
    PE X (.Call (.Name "list" p2) [.Call (.Name "zip" p) [e, e2] [] pos] [] pos2) (tListZip X.K ta) := by
  refine ⟨fun pins s σ H Q I h => ?_⟩
  refine Call_ (ld_blt I hg hm boot_list (PyProof.Rows.callWith_type1 (args_cons (Call_ (ld_blt I hg2 hm2 PyProof.Rows.boot_zip (PyProof.Rows.callWith_type1 (thn (ha.run pos pins s σ H _ I h) fun us s1 ⟨vs, H1, I1, r1, q1⟩ => ?_) hs hpl))) nc) nc))
  obtain ⟨a, b, xs, ys, ex, hqx, hqy, hxy, q⟩ := q1
  subst ex
  cases r1 with
  | cons r rr =>
    cases rr with
    | cons r' rr =>
      cases rr
      cases r
      cases r'
      obtain ⟨its, rv, pl1, hz1⟩ := I1.list hqx
      obtain ⟨its2, rv2, pl2, hz2⟩ := I1.list hqy
      have la : a < s1.heap.objs.size := pl1.lt
      have lb : b < s1.heap.objs.size := pl2.lt
      have lx := rv.length
      have ly := rv2.length
      refine call_zip_2 pl1.isList pl2.isList fun h' hz hTI hTO h1 h2 hsz hk => args_nil ?_
      have D := PySem.W.ktu_apart s1.heap.objs.size a b la lb
      have L : Low (s1.heap.objs.size + 4) (s1.heap.objs.size + 2) (s1.heap.objs.size + 3) s1.heap.objs.size (s1.heap.objs.size + 1) a b ({ s1 with heap := h' } : Shared).heap.objs.size := by
        show Low _ _ _ _ _ _ _ h'.objs.size
        rw [hsz]
        exact low_of _ a b la lb
      refine call_list_zip (s := { s1 with heap := h' }) (I1.ok.hd hc) D L (xs := its.toArray) (ys := its2.toArray) (by simp; omega) (by simp; omega) ⟨hTI, h1, h2, pl1.isList.at fun o e => hk _ o e, pl2.isList.at fun o e => hk _ o e, .inl ⟨hz, _, _, hTO⟩⟩ ⟨_, hz⟩ fun h'' tk acc c as hk2 hS ha hG hacc => ?_
      have hS0 : s1.heap.objs.size ≤ h'.objs.size := by rw [hsz]; exact Nat.le_add_right _ _
      have hkk : ∀ b o, s1.heap.get? b = some o → h''.get? b = some o := fun b o e => by
        obtain ⟨n1, n2, n3, n4⟩ := ne_of_low _ b (Heap.lt_size e)
        exact hk2 b o n1 n2 n3 n4 (hk b o e)
      obtain ⟨k1, k2, k3, k4, k5, J⟩ := zip_laid (tk := tk) I1 rv rv2 hxy hz1 hS0 hkk hS ha hG hacc
      exact ⟨.ref _, _, J, rfl, q _ as k1 k2 k3 k4 k5⟩
end
end Dn

set_option Elab.async false
set_option linter.all false
set_option maxRecDepth 100000
set_option maxHeartbeats 2000000
/-! Dn: list(zip(a, b)) of data. -/
namespace Dn
open PySem PySem.Spec L2 PyProof.Rows
section
variable {X : Cx} {B : Bs} {W : WX}
def zipD : List D → List D → List D
  | a :: as, b :: bs => .tup [a, b] :: zipD as bs
  | _, _ => []
theorem put_rels {Hk : Hp} {m : List Addr} {S : Sto} : ∀ {as : List Addr} {xs ys : List V} {ds es : List D} {F H : Hp}, RH B Hk m F S H → (∀ t ∈ as, H t = none) → as.Nodup → as.length = xs.length → xs.length = ys.length → Rels B F xs ds → Rels B F ys es →
    ∃ F', RH B Hk m F' S (putZ H as (xs.zip ys)) ∧ Grow m F H m F' (putZ H as (xs.zip ys)) ∧ Rels B F' (as.map V.ref) (zipD ds es)
  | [], [], [], _, _, F, H, R, _, _, _, _, .nil, .nil => ⟨F, R, Grow.refl _ _ _, .nil⟩
  | a :: as, x :: xs, y :: ys, _, _, F, H, R, hn, nd, hl, hl2, .cons rx rxs, .cons ry rys => by
    have hp := hn a List.mem_cons_self
    obtain ⟨n1, n2⟩ := List.nodup_cons.mp nd
    obtain ⟨R1, G1⟩ := R.newF (o := .tup [x, y]) hp (by intro _ h; cases h)
    have f1 := same_own (o := .tup [x, y]) (R.froz.free hp)
    have r1 : Rel B (upd F a (.tup [x, y])) (.ref a) _ := .tup (SqT.of upd_same) (.cons (rx.mono f1) (.cons (ry.mono f1) .nil))
    obtain ⟨F', R', G', r'⟩ := put_rels (as := as) (xs := xs) (ys := ys) R1 (fun t ht => by rw [upd_ne (show t ≠ a from fun e => n1 (by rw [← e]; exact ht))]; exact hn t (List.mem_cons_of_mem _ ht)) n2 (by simpa using hl) (by simpa using hl2) (rxs.mono f1) (rys.mono f1)
    exact ⟨F', R', G1.trans G', .cons (r1.mono G'.ff) r'⟩
def kZipL (xs : List Val) (S : Sto) : Out Val := match xs with
  | [x, y] => (match asD S x, asD S y with
    | some (.lst ds), some (.lst es) => if ds.length = es.length then .ok (.d (.lst (zipD ds es))) S else .bad
    | _, _ => .bad)
  | _ => .bad
theorem de_listZip {e e2 : Expr} {fa : DA} {p p2 pos pos2 : Pos} (hc : X.calm = true) (hg : Gl X "list") (hm : X.mg "list" = none) (hg2 : Gl X "zip") (hm2 : X.mg "zip" = none) (ha : PA X [e, e2] (denA B W fa))
    (hs : starEach [e, e2] X.env = (false, eval e X.env) :: starEach [e2] X.env := by rfl) (hpl : (backTo pos (starEach [e2] X.env)).any (·.1) = false := by rfl)
    (nc : starEach [Expr.Call (.Name "zip" p) [e, e2] [] pos] X.env = (false, eval (.Call (.Name "zip" p) [e, e2] [] pos) X.env) :: starEach [] X.env := by rfl) :
    PE X (.Call (.Name "list" p2) [.Call (.Name "zip" p) [e, e2] [] pos] [] pos2) (denE B W (dA fa kZipL)) :=
  PE_weak (pe_listZip hc hg hm hg2 hm2 ha hs hpl nc) fun σ H Q ⟨Hk, m, F, sl, S, R, R2, q⟩ => by
    show denA B W fa σ H _
    refine den_mono (den_step (rel := relA B) (rel2 := relE B) (k := kZipL) R R2 q) fun vs H1 ⟨m1, F1, S1, xs, R1, R21, G, r1, p⟩ => ?_
    have r1 : RelXs B m1 F1 vs xs := r1
    unfold kZipL at p
    cases r1 with
    | nil => exact False.elim p
    | cons rx rr =>
      cases rr with
      | nil => exact False.elim p
      | cons ry rr =>
        cases rr with
        | cons _ _ => exact False.elim p
        | nil =>
          dsimp only at p
          split at p
          · rename_i ds es e1 e2
            by_cases hl : ds.length = es.length
            · rw [if_pos hl] at p
              cases look R1 rx e1 with
              | lst q1 s1 =>
                cases look R1 ry e2 with
                | lst q2 s2 =>
                  have l1 := s1.len
                  have l2 := s2.len
                  refine ⟨_, _, _, _, rfl, .inl q1, .inl q2, by omega, fun a ts h1 h2 h3 h4 h5 => ?_⟩
                  obtain ⟨F', R', G', r'⟩ := put_rels R1 h2 h4 h5 (by omega) s1 s2
                  obtain ⟨R'', G''⟩ := R'.newF (o := .lst (ts.map V.ref)) (p := a) ((putZ_off ts _ H1 h3).trans h1) (by intro _ h; cases h)
                  exact p _ _ _ _ R'' (G'.trans G'') (.d (.lst (.inl upd_same) (r'.mono (same_own (R'.froz.free ((putZ_off ts _ H1 h3).trans h1))))))
            · rw [if_neg hl] at p; exact False.elim p
          · exact False.elim p
end
end Dn

set_option Elab.async false
set_option linter.all false
set_option maxRecDepth 100000
set_option maxHeartbeats 2000000
/-! Dn: try .. except X: without a name. -/
namespace Dn
open PySem L2 PyProof.Rows
def noxF : Fl → Fl
  | .exc _ _ _ => .bad
  | o => o
/-- all classes below n are caught -/
def sTry (n : Nat) (b h : DS) : DS := fun sl S => match b sl S with
  | .exc c sl' S' => if c < n then noxF (h sl' S') else .bad
  | .nx sl' S' => .nx sl' S'
  | .ret x S' => .ret x S'
  | .bk sl' S' => .bk sl' S'
  | .ct sl' S' => .ct sl' S'
  | .bad => .bad
section
variable {X : Cx} {B : Bs} {W : WX}
theorem postS_nox {Hk : Hp} {m : List Addr} {F H : Hp} {o : Fl} {D : Ends} {W' : WX} (h : postS B W Hk m F H (noxF o) D) : postS B W' Hk m F H o D := by
  cases o with
  | exc c sl S => exact False.elim h
  | _ => exact h
theorem w_try {n : Nat} {CS : Addr} {b h : DS} (hx : ∀ c, c < n → PySem.W.exmOne B.K (.ref (B.exA c)) (.ref CS) = some true) {D : Ends} {σ : L2.St} {H : Hp} (q : denS B W (sTry n b h) D σ H) :
    denS B (wMany B.K W D [(.ref CS, fun _ _ _ => denS B WF h)]) b D σ H := by
  obtain ⟨Hk, m, F, sl, S, R, R2, q⟩ := q
  refine ⟨Hk, m, F, sl, S, R, R2, ?_⟩
  unfold sTry at q
  cases e : b sl S with
  | exc c sl' S' =>
    rw [e] at q
    dsimp only at q
    by_cases hc : c < n
    · rw [if_pos hc] at q
      exact fun σ' H' m' F' R' R2' G => ⟨true, hx c hc, fun _ _ _ => ⟨Hk, m', F', sl', S', R', R2', postS_nox (postS_grow G q)⟩, fun z => by cases z⟩
    · rw [if_neg hc] at q; exact False.elim q
  | nx sl' S' => rw [e] at q; exact q
  | ret x S' => rw [e] at q; exact q
  | bk sl' S' => rw [e] at q; exact q
  | ct sl' S' => rw [e] at q; exact q
  | bad => rw [e] at q; exact q
theorem CtxOk.tr {k : Nat} {pn : List (Addr × Obj)} {xe : Value → Shared → Prop} {W' : WX} (c : CtxOk B X W k) (tk : L2N.Takes (X.tr pn xe) W') (po : PassesOwn (model X.prog X.w) X.A X.env xe) : CtxOk B (X.tr pn xe) W' k where
  bx := ⟨c.bx.P, c.bx.w, c.bx.K, c.bx.mg⟩
  calm := c.calm
  nd := c.nd
  hu := c.hu
  tk := tk
  po := po
  rm := c.rm
theorem ds_try {k n : Nat} {CS : Addr} {x : Str} {np pos pos' : Pos} {body suite : List Stmt} {b₀ : Stmt} {b h : DS} (c : CtxOk B X W k) (hs : X.stack = X.env :: X.outer) (hf : X.env.frame = some X.env.locals) (hn : Names X x (.ref CS)) (hx : ∀ c, c < n → PySem.W.exmOne B.K (.ref (B.exA c)) (.ref CS) = some true)
    (hb : ∀ (W' : WX) (pn : List (Addr × Obj)) (xe : Value → Shared → Prop), CtxOk B (X.tr pn xe) W' k → PSs (X.tr pn xe) body (denS B W' b))
    (hh : ∀ (a : Addr) (pn : List (Addr × Obj)), PSs (X.suite a pn) (b₀ :: suite) (denS B WF h)) :
    PS X (.Try body [.ExceptHandler (some (.Name x np)) none (b₀ :: suite) pos'] [] [] pos) (denS B W (sTry n b h)) :=
  PS_weak (L2N.ps_try_many (tb := fun W' => denS B W' b) hs hf c.tk (fun W' pn xe tk po => hb W' pn xe (c.tr tk po)) (.cons hn (fun a oe cls d pn _ _ => hh a _) .nil)) fun D σ H q => c.bx.K ▸ w_try hx q
end
end Dn

set_option Elab.async false
set_option linter.all false
set_option maxRecDepth 100000
set_option maxHeartbeats 2000000
/-! Dn: str(n), int(text), split, partition. -/
namespace Dn
open PySem PySem.Spec L2 PyProof.Rows PySem.StrLaws
def strC (s : Str) : List Nat := s.cps.toList
theorem strC_mk (s : Str) : (⟨(strC s).toArray⟩ : Str) = s := by cases s; simp [strC]
def strID : D → Option D
  | .int i => if i.natAbs.log2 < 1920 then some (.str (strC (toString i))) else none
  | _ => none
def intSD : D → Option D
  | .str s => if s.length ≤ 640 then (PySem.intText? ⟨s.toArray⟩).map D.int else none
  | _ => none
def splitD : D → D → Option D
  | .str a, .str b => if (b.length == 0) = false ∧ a.length + 2 ≤ 16777216 then some (.lst ((Txt.split ⟨a.toArray⟩ ⟨b.toArray⟩).map fun s => .str (strC s))) else none
  | _, _ => none
def prtD : D → D → Option D
  | .str a, .str b => if (b.length == 0) = false ∧ a.length ≤ 16777216 then some (.tup [.str (strC (Txt.partition ⟨a.toArray⟩ ⟨b.toArray⟩).1), .str (strC (Txt.partition ⟨a.toArray⟩ ⟨b.toArray⟩).2.1), .str (strC (Txt.partition ⟨a.toArray⟩ ⟨b.toArray⟩).2.2)]) else none
  | _, _ => none
section
variable {X : Cx} {B : Bs} {W : WX}
theorem Rel.strS {F : Hp} (s : Str) : Rel B F (.str s) (.str (strC s)) := by
  have := Rel.str (B := B) (F := F) (strC s)
  rwa [strC_mk] at this
theorem rels_strs {F : Hp} : ∀ l : List Str, Rels B F (l.map V.str) (l.map fun s => .str (strC s))
  | [] => .nil
  | s :: l => .cons (.strS s) (rels_strs l)
theorem p_strI : PrimA B W (fun xs H Q => ∃ i, xs = [.int i] ∧ i.natAbs.log2 < 1920 ∧ Q (.str (toString i)) H) (rdA1 strID) := pA1 fun F H v a z Q f l e R => by
  cases l with
  | int i =>
    unfold strID at e
    dsimp only at e
    by_cases h : i.natAbs.log2 < 1920
    · rw [if_pos h] at e; cases e
      exact ⟨i, rfl, h, R.old _ (.strS _)⟩
    · rw [if_neg h] at e; cases e
  | _ => cases e
theorem p_intS : PrimA B W (fun xs H Q => ∃ a n, xs = [.str a] ∧ PySem.intText? a = some n ∧ a.length ≤ 640 ∧ Q (.int n) H) (rdA1 intSD) := pA1 fun F H v a z Q f l e R => by
  cases l with
  | str s =>
    unfold intSD at e
    dsimp only at e
    by_cases h : s.length ≤ 640
    · rw [if_pos h] at e
      obtain ⟨n, hn, rfl⟩ := Option.map_eq_some_iff.mp e
      exact ⟨_, n, rfl, hn, by rw [str_len]; exact h, R.old _ (.int n)⟩
    · rw [if_neg h] at e; cases e
  | _ => cases e
theorem p_split : PrimM B W (fun x xs H Q => ∃ a b, x = .str a ∧ xs = [.str b] ∧ (b.length == 0) = false ∧ a.length + 2 ≤ sizeLine ∧ rNewStrs (Txt.split a b) H Q) (rdM1 splitD) := pm1 fun F H v w a b z Q f l1 l2 e R => by
  cases l1 with
  | str s =>
    cases l2 with
    | str t =>
      unfold splitD at e
      dsimp only at e
      by_cases h : (t.length == 0) = false ∧ s.length + 2 ≤ 16777216
      · rw [if_pos h] at e; cases e
        exact ⟨_, _, rfl, rfl, by rw [str_len]; exact h.1, by rw [str_len, szl]; exact h.2, fun p hp => R.new p _ hp (.lst (.inl upd_same) (rels_strs _))⟩
      · rw [if_neg h] at e; cases e
    | _ => cases e
  | _ => cases e
theorem p_part : PrimM B W (fun x xs H Q => ∃ a b, x = .str a ∧ xs = [.str b] ∧ (b.length == 0) = false ∧ a.length ≤ sizeLine ∧ ∀ p, H p = none → Q (.ref p) (upd H p (.tup [.str (Txt.partition a b).1, .str (Txt.partition a b).2.1, .str (Txt.partition a b).2.2]))) (rdM1 prtD) := pm1 fun F H v w a b z Q f l1 l2 e R => by
  cases l1 with
  | str s =>
    cases l2 with
    | str t =>
      unfold prtD at e
      dsimp only at e
      by_cases h : (t.length == 0) = false ∧ s.length ≤ 16777216
      · rw [if_pos h] at e; cases e
        exact ⟨_, _, rfl, rfl, by rw [str_len]; exact h.1, by rw [str_len, szl]; exact h.2, fun p hp => R.new p _ hp (.tup (SqT.of upd_same) (.cons (.strS _) (.cons (.strS _) (.cons (.strS _) .nil))))⟩
      · rw [if_neg h] at e; cases e
    | _ => cases e
  | _ => cases e
end
end Dn

set_option Elab.async false
set_option linter.all false
set_option maxRecDepth 100000
set_option maxHeartbeats 4000000
/-! Dn: comprehensions whose step may raise: the exception leaves the block. -/
namespace Dn
open PySem PySem.Spec L2 PyProof.Rows

section
variable {M : Model} {A : Around} {E : Value → Shared → Prop} {s : Shared} {env : Env} {outer : List Env} {base : Heap} {Z : Obj → Prop} {L C e : Addr}
/-- noted elsewhere: noted here -/
theorem looks_heldZ {Q : Unit → Shared → Prop} (hZ : PXN.Steady1 Z) (hfr : A.frames = some (env :: outer)) (hf : env.frame = some L) (hC : C ≠ L) (hfl : HandSPX.HeldZ base (env :: outer) e Z C s.heap)
    (hQ : ∀ h', HandSPX.HeldZ base (env :: outer) e Z L h' → s.heap.UpToSlots h' → Q () { s with heap := h' }) : wpAny M A (noteFrame (.ref e) env) Q E s := by
  obtain ⟨hkb, hen, hl, oe, vs, T, oT, ts, he, hz, hd, h1, hnT, hTe, hT, hdT, h3⟩ := hfl
  unfold noteFrame
  simp only [hf]
  refine wpAny_bind (wpAny_field he hd h1 ?_)
  rw [if_pos (show (Value.ref T != Value.none) = true from by simp)]
  refine wpAny_bind (wpAny_field hT hdT h3 ?_)
  rw [if_neg (show ¬ ((rawInt C == rawInt L) = true) from fun z => hC (Int.natCast_inj.mp (by simpa [rawInt] using z)))]
  refine wpAny_bind (wpAny_setField hT hdT (Array.getElem?_eq_some_iff.mp h3).1 ?_)
  have other : ∀ b, b ≠ T → (s.heap.update T (Obj.mapFields (·.setIfInBounds 3 Value.none))).get? b = s.heap.get? b := fun b hb => Heap.get?_update_other _ _ (Ne.symm hb)
  have noRecord : ∀ b o, s.heap.get? b = some o → (∀ vs, o.data ≠ .fields vs) → b ≠ T := fun b o hb hnf q => by
    rw [q, hT] at hb; injection hb with hb; subst hb; exact hnf ts hdT
  refine PXN.wpAny_entryZ hZ hfr (hl.of_keeps fun b o hb hnf => ⟨o, (other b (noRecord b o hb hnf)).trans hb, rfl⟩) hf ((other e (Ne.symm hTe)).trans he)
    (fun b o hbo => (other b fun q => by rw [q, hnT] at hbo; cases hbo).trans (hkb b o hbo)) hen hd (Array.getElem?_eq_some_iff.mp h1).1 hz fun h' hN => ?_
  obtain ⟨x1, x2, x3, x4⟩ := hN
  exact hQ h' ⟨x1, hen, x2, x3⟩ fun b o hb hnf => x4 b o ((other b (noRecord b o hb hnf)).trans hb) hnf
end
theorem frames_off {base B h h' : Heap} : ∀ {l : List Env}, h.FunFrames base l → (∀ b ∈ frs l, h'.get? b = h.get? b) → (∀ b ∈ frs l, B.get? b = none) → h'.FunFrames B l
  | [], _, _, _ => trivial
  | env :: l, h, hk, hn => by
    obtain ⟨q, ⟨L, o, hf, _, ho, hd⟩, hr⟩ := h
    have mm : L ∈ frs (env :: l) := List.mem_filterMap.mpr ⟨env, List.mem_cons_self, hf⟩
    have up : ∀ b ∈ frs l, b ∈ frs (env :: l) := fun b hb => by
      obtain ⟨e, he, q⟩ := List.mem_filterMap.mp hb
      exact List.mem_filterMap.mpr ⟨e, List.mem_cons_of_mem _ he, q⟩
    exact ⟨q, ⟨L, o, hf, hn L mm, (hk L mm).trans ho, hd⟩, frames_off hr (fun b hb => hk b (up b hb)) fun b hb => hn b (up b hb)⟩
section
variable {X : Cx} {W : WX}
/-- a block's exception leaves it -/
theorem blk_fails {pins : List (Addr × Obj)} {σ : L2.St} {H3 : Hp} {s3 s' : Shared} {scope : Scope} {cl : List (Str × Addr)} {fp : List Addr} {xe : Value → Shared → Prop} {u : Value} (hs : X.stack = X.env :: X.outer) (hf : X.env.frame = some X.env.locals) (tk : L2N.Takes X W)
    (I3 : Inv X pins σ H3 s3) (f3 : ∀ b ∈ fp, FpOk X pins H3 b ∧ b < s3.heap.objs.size) (okb : (X.blk s3 H3 scope (compEnvC scope cl s3.heap.objs.size X.env) fp).Ok)
    (x : L2N.XE ((X.blk s3 H3 scope (compEnvC scope cl s3.heap.objs.size X.env) fp).tr [] xe) (fun cls d _ H' => W cls d σ H') u s') :
    notedBy (model X.prog X.w) X.A (compEnvC scope cl s3.heap.objs.size X.env) (fun e s' => CompFails (model X.prog X.w) X.A X.xe (compEnvC scope cl s3.heap.objs.size X.env) e s') u s' := by
  obtain ⟨a, B, sI, pins', σ', H', cls, d, rfl, J', nb, up, sky, na, os, ag, w⟩ := x
  have J : Inv (X.blk s3 H3 scope (compEnvC scope cl s3.heap.objs.size X.env) fp) [] σ' H' sI := Inv.ofTry (pins := []) J' okb
  have hfr : X.A.frames = some (X.env :: X.outer) := by rw [I3.ok.frames, hs]
  have nC : H' s3.heap.objs.size = none := J.free
  obtain ⟨c0, c1, c2, c3, c4, c5⟩ := I3.fpOk (Nat.le_refl _) nC
  have hCL : s3.heap.objs.size ≠ X.env.locals := c1
  have hCf : s3.heap.objs.size ∉ frs X.stack := fun z => by
    rcases List.mem_cons.mp (I3.stkSub _ z) with z | z
    · exact c1 z
    · exact c2 z
  have sky' : Sky B (X.env :: X.outer) a (L2N.Zn cls d) s3.heap.objs.size s'.heap := by rw [← hs]; exact sky
  have nfe : noteFrame (.ref a) (compEnvC scope cl s3.heap.objs.size X.env) = noteFrame (.ref a) X.env := rfl
  unfold notedBy
  rw [nfe]
  have noted : ∀ {Q : Unit → Shared → Prop} {E : Value → Shared → Prop}, (∀ h', HandSPX.HeldZ B (X.env :: X.outer) a (L2N.Zn cls d) X.env.locals h' → s'.heap.UpToSlots h' → Q () { s' with heap := h' }) → wpAny (model X.prog X.w) X.A (noteFrame (.ref a) X.env) Q E s' := fun {Q E} hQ => by
    rcases sky' with ⟨hB, hn, hl, oe, vs, he, hz, hd, h1⟩ | fl | hh
    · exact PXN.look_newZ L2N.Zn.steady hfr hl hf he hB hn hd h1 hz hQ
    · exact PXN.looks_onZ L2N.Zn.steady hfr hf fl hQ
    · exact looks_heldZ L2N.Zn.steady hfr hf hCL hh hQ
  refine noted fun h1 hh up1 => ?_
  have J1 : Inv (X.blk s3 H3 scope (compEnvC scope cl s3.heap.objs.size X.env) fp) [] σ' H' { s' with heap := h1 } := J.landed nb hh.1 (up.trans up1) os ag
  obtain ⟨m, hn, _⟩ := J1.loc
  have hn : h1.Ns s3.heap.objs.size m := hn
  refine ⟨m, hn, fun h' m' hn' sb => ?_⟩
  have sb : Heap.SameBut s3.heap.objs.size h1 h' := sb
  obtain ⟨hkb, hen, hl, oe, vs, T, oT, ts, he, hz, hd, h1x, hnT, hTe, hT, hdT, h3x⟩ := hh
  obtain ⟨m0, hn0, _⟩ := J.loc
  have hn0 : sI.heap.Ns s3.heap.objs.size m0 := hn0
  obtain ⟨oC, esC, epC, hoC, _⟩ := hn0
  have hBC : B.get? s3.heap.objs.size = some oC := nb _ _ hoC hCf
  have aC : a ≠ s3.heap.objs.size := fun z => by rw [z, hBC] at hen; cases hen
  have TC : T ≠ s3.heap.objs.size := fun z => by rw [z, hBC] at hnT; cases hnT
  have he' : h'.get? a = some oe := (sb.2 a aC).trans he
  have hT' : h'.get? T = some oT := (sb.2 T TC).trans hT
  have hB' : ∀ b o, (PySem.W.hideAll B [s3.heap.objs.size]).get? b = some o → b ≠ s3.heap.objs.size ∧ B.get? b = some o := fun b o q => by
    refine ⟨fun z => ?_, PySem.W.of_hideAll _ q⟩
    rw [z, PySem.W.hideAll_none _ (by simp)] at q; cases q
  have noneB' : ∀ b, B.get? b = none → (PySem.W.hideAll B [s3.heap.objs.size]).get? b = none := fun b hb => by
    cases q : (PySem.W.hideAll B [s3.heap.objs.size]).get? b with
    | none => rfl
    | some o => rw [(hB' b o q).2] at hb; cases hb
  have kB' : (PySem.W.hideAll B [s3.heap.objs.size]).StaysIn h' := fun b o q => by
    obtain ⟨q1, q2⟩ := hB' b o q
    exact (sb.2 b q1).trans (hkb b o q2)
  have lB' : h'.FunFrames (PySem.W.hideAll B [s3.heap.objs.size]) (X.env :: X.outer) := by
    refine frames_off hl (fun b hb => sb.2 b fun z => ?_) fun b hb => noneB' b (hl.mem hb).1
    rw [hs] at hCf
    exact hCf (z ▸ hb)
  unfold PySem.passOn
  refine wpAny_bind (wpAny_field he' hd h1x ?_)
  rw [if_neg (show ¬ ((Value.ref T == Value.none) = true) from by simp)]
  have fin : wpAny (model X.prog X.w) X.A (setFlight (.ref a) (compEnvC scope cl s3.heap.objs.size X.env).frame) (fun _ s4 => wpAny (model X.prog X.w) X.A (throw (.ref a) : Sem Value) (fun _ _ => False) X.xe s4) X.xe { s' with heap := h' } := by
    rw [show (compEnvC scope cl s3.heap.objs.size X.env).frame = some X.env.locals from hf]
    refine HandSPX.setFlight_anyZ (base := PySem.W.hideAll B [s3.heap.objs.size]) (l := X.env :: X.outer) (Z := L2N.Zn cls d) (fl := rawInt X.env.locals) kB' lB' ⟨oe, vs, T, oT, ts, he', hz, hd, h1x, noneB' T hnT, hTe, hT', hdT, h3x⟩ fun h2 k2 l2 t2 up2 => wpAny_throw (tk _ _ ?_)
    have J7 : Inv X pins σ H' sI := I3.call' (ch := fp) J.os J.base J.hok J.bare fun b hb => ⟨(f3 b hb).1.2.2.2.1, (f3 b hb).1.2.1, (f3 b hb).1.2.2.2.2.1, (f3 b hb).1.2.2.2.2.2⟩
    have J2 : Inv X pins σ H' { sI with heap := PySem.W.hideAll sI.heap [s3.heap.objs.size] } := J7.turned (t' := sI.toks) (fun b o hb q => PySem.W.hideAll_get _ q (by simpa using hb)) c0 c1 c3 c4 c5
    refine ⟨a, PySem.W.hideAll B [s3.heap.objs.size], { sI with heap := PySem.W.hideAll sI.heap [s3.heap.objs.size] }, pins, σ, H', cls, d, rfl, J2, fun b o q hb => ?_, fun b o q hnf => ?_, .inr (.inr (by rw [hs]; exact ⟨k2, noneB' a hen, l2, t2⟩)), na, os, ag, w⟩
    · have q1 : b ≠ s3.heap.objs.size := fun z => by
        rw [z, PySem.W.hideAll_none _ (by simp)] at q; cases q
      exact PySem.W.hideAll_get _ (nb b o (PySem.W.of_hideAll _ q) hb) (by simpa using q1)
    · have q1 : b ≠ s3.heap.objs.size := fun z => by
        rw [z, PySem.W.hideAll_none _ (by simp)] at q; cases q
      obtain ⟨sl, q2⟩ := (up.trans up1) b o (PySem.W.of_hideAll _ q) hnf
      have q3 : h'.get? b = some { o with slots := sl } := (sb.2 b q1).trans q2
      obtain ⟨sl2, q4⟩ := up2 b _ q3 hnf
      exact ⟨sl2, q4⟩
  first
    | exact wpAny_bind (wpAny_pure (wpAny_bind fin))
    | exact wpAny_bind fin
/-- a list comprehension whose step may raise -/
theorem pe_lcX {elt tg iter : Expr} {ifs : List Expr} {scope : Scope} {own : List (Str × Nat)} {pos : Pos} {wi : TI} {g : TG} {tt : TT} {te : WX → TE} (hc : X.calm = true) (hN : X.N.Nodup) (hst : X.stack = X.env :: X.outer) (hf : X.env.frame = some X.env.locals) (tk : L2N.Takes X W) (hi : PI X tg iter wi) (ok : BlkOk X.N X.env.scope scope own)
    (hg : ∀ (s : Shared) (H : Hp) (C : Addr) (cl : List (Str × Addr)) (fp : List Addr), PG (X.blk s H scope (compEnvC scope cl C X.env) fp) tg g) (ht : ∀ (s : Shared) (H : Hp) (C : Addr) (cl : List (Str × Addr)) (fp : List Addr), PTs (X.blk s H scope (compEnvC scope cl C X.env) fp) ifs tt)
    (he : ∀ (s : Shared) (H : Hp) (C : Addr) (cl : List (Str × Addr)) (fp : List Addr) (xe : Value → Shared → Prop) (W' : WX), L2N.Takes ((X.blk s H scope (compEnvC scope cl C X.env) fp).tr [] xe) W' → PE ((X.blk s H scope (compEnvC scope cl C X.env) fp).tr [] xe) elt (te W')) (hs : ∀ x, foldedSetIterable iter X.env x = pure x := by intro _; rfl) :
    PE X (.ListComp elt [⟨tg, iter, ifs, 0⟩] scope pos) (fun σ H Q => tLc wi g tt (te fun cls d _ H' => W cls d σ H') (own.map (·.2)) σ H Q) := by
  refine ⟨fun pins s σ H Q I h => ?_⟩
  rw [eval_ListComp]
  have hfree : ∀ y ∈ scope.names, y.2 = .free → ∃ c, X.env.cells.lookup y.1 = some c := fun y hy e => by
    rcases ok.free y hy e with k | k
    · exact I.ok.has _ (.inl k)
    · exact I.ok.has _ (.inr k)
  refine comprehension_at (use := none) rfl hs (closure_ok hfree) ok.kind (fun y hy e => by rw [ok.uniq y hy, e])
    (thn (hi.run pins s σ H _ I h) fun xv s1 hx => thn hx fun itv s2 h2 => ?_)
  obtain ⟨it, fp, tn, J, H2, e, I2, T, st2, f2, q⟩ := h2
  subst e
  refine wpAny_newObj_type (newEnv_comp ?_) (by show 0 ≤ sizeLine; decide)
  generalize hD : s2.heap.objs.size = D
  have hDn : H2 D = none := I2.hok.fresh (Nat.le_of_eq hD)
  obtain ⟨Wl, ⟨m0, w0⟩, turn⟩ := q D hDn
  generalize hs3 : ({ s2 with heap := s2.heap.push { cls := .type "list", data := .seq ([] : List Value).toArray } } : Shared) = s3
  have I3 : Inv X pins σ (upd H2 D (.lst [])) s3 := by
    rw [← hs3]
    refine I2.laid (t' := s2.toks) (fun b o e => Heap.get?_push_of_some _ e) (Nat.le_of_eq hD) ⟨Nat.zero_le _, [], 0, .nil, ?_⟩
    rw [← hD]
    exact Heap.get?_push_size _ rfl
  have h3 : s3.heap = s2.heap.push { cls := .type "list", data := .seq ([] : List Value).toArray } := by rw [← hs3]
  have sz : ∀ b ∈ fp, b < s2.heap.objs.size := fun b hb => by
    obtain ⟨o, e, _⟩ := T.obj _ _ st2 b hb
    exact Heap.lt_size e
  have f3 : ∀ b ∈ fp, FpOk X pins (upd H2 D (.lst [])) b ∧ b < s3.heap.objs.size := fun b hb => by
    have hlt := sz b hb
    refine ⟨⟨?_, (f2 b hb).2⟩, by rw [h3, Heap.size_push]; exact Nat.lt_succ_of_lt hlt⟩
    rw [upd_ne (by rw [← hD]; exact Nat.ne_of_lt hlt)]
    exact (f2 b hb).1
  have st3 : tn 0 s3.heap := T.keep _ _ _ st2 fun b _ o e => by rw [h3]; exact Heap.get?_push_of_some _ e
  have I4 := block_start I3 ok hN f3
  have pg := hg s3 (upd H2 D (.lst [])) s3.heap.objs.size (cellsFrom (s3.heap.objs.size + 1) scope.names (cloFrom X.env.cells scope.names [])) fp
  have pt := ht s3 (upd H2 D (.lst [])) s3.heap.objs.size (cellsFrom (s3.heap.objs.size + 1) scope.names (cloFrom X.env.cells scope.names [])) fp
  have pe := he s3 (upd H2 D (.lst [])) s3.heap.objs.size (cellsFrom (s3.heap.objs.size + 1) scope.names (cloFrom X.env.cells scope.names [])) fp
    (notedBy (model X.prog X.w) X.A (compEnvC scope (cellsFrom (s3.heap.objs.size + 1) scope.names (cloFrom X.env.cells scope.names [])) s3.heap.objs.size X.env) (fun e s' => CompFails (model X.prog X.w) X.A X.xe (compEnvC scope (cellsFrom (s3.heap.objs.size + 1) scope.names (cloFrom X.env.cells scope.names [])) s3.heap.objs.size X.env) e s')) (fun cls d _ H' => W cls d σ H') (fun u s' x => blk_fails hst hf tk I3 f3 I4.ok x)
  show codeAny _ _ (.compStart (.ListComp elt [⟨tg, iter, ifs, 0⟩] scope pos) 0 (.ref it) (.ref D) (compEnvC scope (cellsFrom (s3.heap.objs.size + 1) scope.names (cloFrom X.env.cells scope.names [])) s3.heap.objs.size X.env)) (compEnds (model X.prog X.w) X.A X.xe none (EP X pins σ Q) (.ref D) (compEnvC scope (cellsFrom (s3.heap.objs.size + 1) scope.names (cloFrom X.env.cells scope.names [])) s3.heap.objs.size X.env)) { s3 with heap := pushCells (s3.heap.push { cls := .type "dict", data := .dict #[] }) scope.names }
  have nfp : ∀ b ∈ fp, (upd H2 D (.lst [])) b = none := fun b hb => (f3 b hb).1.1
  generalize hce : compEnvC scope (cellsFrom (s3.heap.objs.size + 1) scope.names (cloFrom X.env.cells scope.names [])) s3.heap.objs.size X.env = ce at I4 pg pt pe ⊢
  have cL : ce.locals = s3.heap.objs.size := by subst hce; rfl
  generalize hH3 : upd H2 D (.lst []) = H3 at I3 I4 pg pt pe w0 nfp f3
  generalize hs4 : ({ s3 with heap := pushCells (s3.heap.push { cls := .type "dict", data := .dict #[] }) scope.names } : Shared) = s4 at I4 ⊢
  have st4 : tn 0 s4.heap := T.keep _ _ _ st3 fun b _ o e => by rw [← hs4]; exact pushCells_keeps _ _ _ _ (Heap.get?_push_of_some _ e)
  have stat : ∀ {σ' : L2.St} {H' : Hp} {s' : Shared}, Inv (X.blk s3 H3 scope ce fp) [] σ' H' s' → (∀ b ∈ fp, H' b = none) → ∀ b ∈ fp, FpOk (X.blk s3 H3 scope ce fp) [] H' b := fun {σ' H' s'} I' hn b hb =>
    ⟨hn b hb, (I'.ok.exf b hb).1, I'.ok.exfs b hb, .inl hb, fun x c e => (I'.ok.exf b hb).2 x c e, fun p hp => absurd (show p ∈ ([] : List (Addr × Obj)) ++ [] from hp) (by simp)⟩
  have loop : codeAny (model X.prog X.w) X.A (.compLoop (.ListComp elt [⟨tg, iter, ifs, 0⟩] scope pos) 0 (.ref it) (.ref D) ce) (compEnds (model X.prog X.w) X.A X.xe none (EP X pins σ Q) (.ref D) ce) s4 := by
    refine compLoop_any (fun n s' => ∃ i H', Inv (X.blk s3 H3 scope ce fp) [] (L2.wipe σ (own.map (·.2))) H' s' ∧ tn i s'.heap ∧ (∀ b ∈ fp, H' b = none) ∧ Wl i n H') ?_ m0 ⟨0, H3, I4, st4, nfp, w0⟩
    rintro n s5 ⟨i, H5, I5, st5, n5, w5⟩
    rcases turn i n H5 w5 with ⟨stop, qq⟩ | ⟨go, Nx, hNx, step⟩
    · have td := T.done (X.blk s3 H3 scope ce fp) rfl rfl rfl hc i [] s5 _ H5 (fun _ _ => False) I5 (stat I5 n5) st5 stop
      refine thnF td fun r s6 ⟨hr, I6⟩ => ?_
      subst hr
      have I7 : Inv X pins σ H5 s6 := I3.call' (ch := fp) I6.os I6.base I6.hok I6.bare fun b hb => ⟨(f3 b hb).1.2.2.2.1, (f3 b hb).1.2.1, (f3 b hb).1.2.2.2.2.1, (f3 b hb).1.2.2.2.2.2⟩
      have nC : H5 s3.heap.objs.size = none := by
        have z : H5 ce.locals = none := I6.free
        rw [cL] at z
        exact z
      obtain ⟨m, hn, _⟩ := I6.loc
      have hn : s6.heap.Ns ce.locals m := hn
      obtain ⟨c0, c1, c2, c3, c4, c5⟩ := I3.fpOk (Nat.le_refl _) nC
      refine ⟨m, hn, fun h'' sb => ?_⟩
      have sb : Heap.SameBut s3.heap.objs.size s6.heap h'' := cL ▸ sb
      exact ⟨.ref D, H5, I7.turned (t' := s6.toks) (fun b o hb e => (sb.2 b hb).trans e) c0 c1 c3 c4 c5, rfl, qq⟩
    · have ti := T.item (X.blk s3 H3 scope ce fp) rfl rfl rfl hc i [] s5 _ H5 (fun _ _ => False) I5 (stat I5 n5) st5 go
      refine thnF ti fun r s6 ⟨u, hr, h6⟩ => ?_
      subst hr
      refine thnF h6 fun _ s7 ⟨x, H7, I7, r7, y7, st7, n7⟩ => ?_
      have I7' := I7.pinned (stat I7 n7) (T.obj _ _ st7)
      refine thnF (pg.run _ s7 _ H7 x u _ I7' r7 (step x H7 y7)) fun _ s8 ⟨σ8, H8, I8, hw8, q8⟩ => ?_
      refine thnF (pt.run _ s8 σ8 H8 _ I8 q8) fun b s9 ⟨H9, I9, q9⟩ => ?_
      have fin : ∀ {s' : Shared} {H' : Hp}, Inv (X.blk s3 H3 scope ce fp) ([] ++ pinsAt fp s7.heap) σ8 H' s' → Nx H' → ∃ m, m < n ∧ ∃ i H', Inv (X.blk s3 H3 scope ce fp) [] (L2.wipe σ (own.map (·.2))) H' s' ∧ tn i s'.heap ∧ (∀ b ∈ fp, H' b = none) ∧ Wl i m H' := fun {s' H'} I' nx => by
        obtain ⟨m', hm, w'⟩ := hNx H' nx
        have pin' : ∀ b ∈ fp, ∀ o, s7.heap.get? b = some o → s'.heap.get? b = some o ∧ H' b = none := fun b hb o e =>
          let z := I'.pin (b, o) (List.mem_append_right _ (List.mem_append_right _ (mem_pinsAt hb e)))
          ⟨z.1, z.2.1⟩
        have hl : (L2.wipe σ (own.map (·.2))).length = σ8.length := by rw [← hw8, L2.wipe_length]
        refine ⟨m', hm, i + 1, H', (I'.unpinned (pins := [])).weak hl (fun j v e => ?_), T.keep _ _ _ st7 fun b hb o e => (pin' b hb o e).1, fun b hb => ?_, w'⟩
        · rw [← hw8] at e
          exact (wipe_some e).1
        · obtain ⟨o, e, _⟩ := T.obj _ _ st7 b hb
          exact (pin' b hb o e).2
      cases b with
      | false =>
        simp only [Bool.false_eq_true, if_false] at q9 ⊢
        exact fin I9 q9
      | true =>
        simp only [if_true] at q9 ⊢
        have I9' : Inv ((X.blk s3 H3 scope ce fp).tr [] (notedBy (model X.prog X.w) X.A ce (fun e s' => CompFails (model X.prog X.w) X.A X.xe ce e s'))) ([] ++ pinsAt fp s7.heap) σ8 H9 s9 :=
          ⟨I9.ok.toTry _ _, I9.os, I9.bare, I9.base, I9.loc, I9.cell, I9.free, I9.freeC, fun p hp => I9.pin p hp, I9.hok, I9.len⟩
        refine thn (pe.run _ s9 σ8 H9 _ I9' q9) fun z s10 ⟨yv, H10, I10, r10, acc, hD10, hz10, nx⟩ => ?_
        have I10' : Inv (X.blk s3 H3 scope ce fp) ([] ++ pinsAt fp s7.heap) σ8 H10 s10 :=
          ⟨I9.ok, I10.os, I10.bare, I10.base, I10.loc, I10.cell, I10.free, I10.freeC, fun p hp => I10.pin p hp, I10.hok, I10.len⟩
        exact app_ok (X := X.blk s3 H3 scope ce fp) I10' hD10 hz10 r10 fun s11 I11 => fin I11 nx
  exact codeAny_compStart_list loop (T.self X.A 0 _ _ _ st4 loop)
end
end Dn

set_option Elab.async false
set_option linter.all false
set_option maxRecDepth 100000
set_option maxHeartbeats 4000000
/-! Dn: comprehensions whose step may raise: the reading. -/
namespace Dn
open PySem PySem.Spec L2 PyProof.Rows
def lcGX (it : Its') (g : DF) (t : DT) (e : DE) (sl0 : Sl) : Nat → Nat → List Val → Sto → Out (List Val)
  | 0, _, _, _ => .bad
  | k + 1, i, acc, S => match it S with
    | none => .bad
    | some xs => match xs[i]? with
      | none => .ok acc S
      | some x => match g x sl0 S with
        | none => .bad
        | some sl1 => (nox (t sl1 S)).bind fun c S2 => if c = true then ((e sl1 S2).bind fun y S3 => if acc.length < 16777216 then lcGX it g t e sl0 k (i + 1) (acc ++ [y]) S3 else .bad) else lcGX it g t e sl0 k (i + 1) acc S2
def lcKX (g : DF) (t : DT) (e : DE) (sl0 : Sl) (it : Its') (S1 : Sto) : Out (List Val) := match it S1 with
  | none => .bad
  | some xs => lcGX it g t e sl0 (xs.length + 1) 0 [] S1
def gLcX (fin : List Val → Sto → Out Val) (f : DI) (g : DF) (t : DT) (e : DE) (vs : List Nat) : DE := fun sl S => (f sl S).bind fun it S1 => (lcKX g t e (wipeD sl vs) it S1).bind fin
section
variable {X : Cx} {B : Bs} {W : WX}
theorem w_lcX {fin : List Val → Sto → Out Val} (fo : FinOk B W fin) {f : DI} {g : DF} {t : DT} {e : DE} {is vs : List Nat} (hi : ∀ j ∈ is, j ∈ vs) {σ : L2.St} {H : Hp} {Q : VK} (h : denE B W (gLcX fin f g t e vs) σ H Q) : tLc (denI B W f) (denF B is g) (denT B WF t) (denE B (fun cls d _ H' => W cls d σ H') e) vs σ H Q := by
  obtain ⟨Hk, m, F, sl, S, R, R2, q⟩ := h
  refine ⟨Hk, m, F, sl, S, R, R2, ?_⟩
  unfold gLcX at q
  cases e0 : f sl S with
  | exc c S' => rw [e0] at q; exact q
  | bad => rw [e0] at q; exact q
  | ok it S1 =>
    rw [e0, Out.bind_ok] at q
    intro J m1 F1 H1 R1 G1 ok L hL
    have q := post_grow G1 q
    unfold lcKX at q
    cases e1 : it S1 with
    | none => rw [e1] at q; exact False.elim q
    | some xs =>
      rw [e1] at q
      dsimp only at q
      have nm : L ∉ m1 := fun hm => R1.there L hm hL
      refine ⟨fun i k H => ∃ m2 F2 S2 acc ys, RH B Hk m2 F2 S2 H ∧ Grow m1 F1 H1 m2 F2 H ∧ Bes B Hk m2 F2 H L acc ∧ RelXs B m2 F2 acc ys ∧ RSl B m2 F2 sl σ ∧ post B W (relE B) Hk σ m1 F1 H1 ((lcGX it g t e (wipeD sl vs) k i ys S2).bind fin) Q,
        ⟨xs.length + 1, m1, F1, S1, [], [], R1.beside (R1.none hL) (R1.keep.free hL) nm (.inl hL), (Grow.refl _ _ _).beside, ⟨upd_same, R1.none hL, R1.keep.free hL, nm⟩, .nil, R2.mono G1, q⟩, ?_⟩
      rintro i k H2 ⟨m2, F2, S2, acc, ys, R3, G2, bs, ra, rs, q2⟩
      cases k with
      | zero => exact False.elim q2
      | succ k =>
        rw [lcGX] at q2
        have R3' := R3.more bs.at_ bs.nm
        cases e2 : it S2 with
        | none => rw [e2] at q2; exact False.elim q2
        | some zs =>
          rw [e2] at q2
          dsimp only at q2
          obtain ⟨k1, k2⟩ := ok _ i m2 F2 S2 H2 zs R3' G2 e2
          cases e3 : zs[i]? with
          | none =>
            rw [e3] at q2
            exact .inl ⟨k2 e3, fo Hk σ m1 m2 F1 F2 H1 H2 S2 L acc ys Q R3 bs ra G2 hL q2⟩
          | some x =>
            rw [e3] at q2
            dsimp only at q2
            obtain ⟨go, yld⟩ := k1 x e3
            refine .inr ⟨go, fun H => ∃ m2 F2 S2 acc ys, RH B Hk m2 F2 S2 H ∧ Grow m1 F1 H1 m2 F2 H ∧ Bes B Hk m2 F2 H L acc ∧ RelXs B m2 F2 acc ys ∧ RSl B m2 F2 sl σ ∧ post B W (relE B) Hk σ m1 F1 H1 ((lcGX it g t e (wipeD sl vs) k (i + 1) ys S2).bind fin) Q,
              fun H' h => ⟨k, Nat.lt_succ_self k, h⟩, fun v H' y => ?_⟩
            obtain ⟨F3, R5, G3, rx⟩ := yld v H' y
            have hne : H2 L ≠ none := by rw [bs.at_]; simp
            have bes : ∀ {m4 : List Addr} {F4 H4 : Hp} {S4 : Sto}, RH B (upd Hk L (.lst acc)) m4 F4 S4 H4 → Grow m2 F2 H2 m4 F4 H4 → Bes B Hk m4 F4 H4 L acc := fun {m4 F4 H4 S4} R6 G6 => ⟨R6.keep _ _ upd_same, G6.fr L bs.nf hne bs.nm, bs.nk, fun z => (G6.mf L z).elim bs.nm fun z => hne z⟩
            have hk : Same Hk (upd Hk L (.lst acc)) := same_own bs.nk
            refine ⟨_, m2, F3, wipeD sl vs, S2, x, R5, (rs.mono G3).wipe vs, rx, ?_⟩
            cases e4 : g x (wipeD sl vs) S2 with
            | none => rw [e4] at q2; exact False.elim q2
            | some sl3 =>
              rw [e4] at q2
              dsimp only at q2 ⊢
              intro σ4 R7 ln fr
              have hln : σ4.length = σ.length := ln.trans (L2.wipe_length σ vs)
              refine ⟨wipe_same hln fr hi, _, m2, F3, sl3, S2, R5, R7, ?_⟩
              cases e5 : t sl3 S2 with
              | bad => rw [e5] at q2; exact False.elim q2
              | exc c S5 => rw [e5] at q2; exact False.elim q2
              | ok c S5 =>
                rw [e5] at q2
                simp only [nox, Out.bind_ok] at q2
                intro b5 H5 m5 F5 R8 G5 r5
                cases r5
                have G35 := G3.trans G5
                cases c with
                | false =>
                  rw [if_neg (by simp)] at q2 ⊢
                  exact ⟨m5, F5, S5, acc, ys, R8.less hk, G2.trans G35, bes R8 G35, ra.grow G35, rs.mono G35, q2⟩
                | true =>
                  rw [if_pos rfl] at q2 ⊢
                  refine ⟨_, m5, F5, sl3, S5, R8, R7.mono G5, ?_⟩
                  cases e6 : e sl3 S5 with
                  | bad => rw [e6] at q2; exact False.elim q2
                  | exc c S6 =>
                    rw [e6] at q2
                    exact fun H' m' F' R' G' => q2 H' m' F' (R'.less hk) ((G2.trans G35).trans G')
                  | ok y S6 =>
                    rw [e6] at q2
                    simp only [Out.bind_ok] at q2
                    intro v6 H6 m6 F6 R9 G6 r6
                    have G36 := G35.trans G6
                    have b6 := bes R9 G36
                    split at q2
                    · rename_i hz
                      refine ⟨acc, b6.at_, by rw [ra.len, szl]; exact hz, m6, F6, S6, acc ++ [v6], ys ++ [y], (R9.less hk).beside b6.nf b6.nk b6.nm (.inr ⟨_, b6.at_⟩), (G2.trans G36).beside, ⟨upd_same, b6.nf, b6.nk, b6.nm⟩, (ra.grow G36).append (.cons r6 .nil), rs.mono G36, q2⟩
                    · exact False.elim q2

/-- a context without its end -/
structure CtxI (B : Bs) (X : Cx) (W : WX) (k : Nat) : Prop where
  bx : BX B X
  calm : X.calm = true
  nd : X.N.Nodup
  hu : X.A.units + 100 < cLine
  tk : L2N.Takes X W
  rm : Room k X.A
theorem CtxI.hu64 {k : Nat} (c : CtxI B X W k) : X.A.units + 64 < cLine := by have := c.hu; omega
theorem cb_callI {k j n : Nat} {x : Str} {ps : List Str} {p pos : Pos} {e : Expr} {es : List Expr} {fa : DA} {Fp : List D → Ret} (c : CtxI B X W k) (h : FnB X.prog X.w X.K X.mg X.base j x ps (spP B n Fp)) (hj : j ≤ k) (ha : PA X (e :: es) (denA B W fa)) (hl : lenA fa n) (hg : Gl X x := by rfl) (hdb : (x == ("__debug__" : Str)) = false := by decide)
    (he : starEach (e :: es) X.env = (false, eval e X.env) :: starEach es X.env := by rfl) (hpl : (backTo pos (starEach es X.env)).any (·.1) = false := by rfl) : PE X (.Call (.Name x p) (e :: es) [] pos) (denE B W (dCall Fp fa)) := by
  obtain ⟨f, fd, h1, h2, h3, h4⟩ := h.ex
  exact de_call c.tk h1 (c.rm.mono hj) h2 h3 h4 hg ha hl hdb he hpl
theorem CtxOk.blkX {s : Shared} {H : Hp} {scope : Scope} {C : Addr} {cl : List (Str × Addr)} {fp : List Addr} {xe : Value → Shared → Prop} {W' : WX} {k : Nat} (c : CtxOk B X W k) (tk : L2N.Takes ((X.blk s H scope (compEnvC scope cl C X.env) fp).tr [] xe) W') : CtxI B ((X.blk s H scope (compEnvC scope cl C X.env) fp).tr [] xe) W' k where
  bx := ⟨c.bx.P, c.bx.w, c.bx.K, c.bx.mg⟩
  calm := c.calm
  nd := c.nd
  hu := c.hu
  tk := tk
  rm := c.rm
section
variable {elt tg iter : Expr} {ifs : List Expr} {scope : Scope} {pos : Pos} {f : DI} {g : DF} {t : DT} {e : DE} {is : List Nat} {k : Nat}
theorem de_lcX {fin : List Val → Sto → Out Val} (fo : FinOk B W fin) (own : List (Str × Nat)) (c : CtxOk B X W k) (hi : PI X tg iter (denI B W f)) (ok : BlkOk X.N X.env.scope scope own)
    (hg : ∀ (s : Shared) (H : Hp) (C : Addr) (cl : List (Str × Addr)) (fp : List Addr), PG (X.blk s H scope (compEnvC scope cl C X.env) fp) tg (denF B is g)) (ht : ∀ (s : Shared) (H : Hp) (C : Addr) (cl : List (Str × Addr)) (fp : List Addr), PTs (X.blk s H scope (compEnvC scope cl C X.env) fp) ifs (denT B WF t))
    (he : ∀ (s : Shared) (H : Hp) (C : Addr) (cl : List (Str × Addr)) (fp : List Addr) (xe : Value → Shared → Prop) (W' : WX), CtxI B ((X.blk s H scope (compEnvC scope cl C X.env) fp).tr [] xe) W' k → PE ((X.blk s H scope (compEnvC scope cl C X.env) fp).tr [] xe) elt (denE B W' e))
    (hst : X.stack = X.env :: X.outer := by rfl) (hf : X.env.frame = some X.env.locals := by rfl) (his : ∀ j ∈ is, j ∈ own.map (·.2) := by decide) (hs : ∀ x, foldedSetIterable iter X.env x = pure x := by intro _; rfl) :
    PE X (.ListComp elt [⟨tg, iter, ifs, 0⟩] scope pos) (denE B W (gLcX fin f g t e (own.map (·.2)))) :=
  PE_weak (pe_lcX (te := fun W' => denE B W' e) c.calm c.nd hst hf c.tk hi ok hg ht (fun s H C cl fp xe W' tk => he s H C cl fp xe W' (c.blkX tk)) hs) fun _ _ _ q => w_lcX fo his q
end
end
end Dn

set_option Elab.async false
set_option linter.all false
set_option maxRecDepth 100000
set_option maxHeartbeats 4000000
/-! Dn: text.join(e), e with a replace within. -/
namespace Dn
open PySem PySem.Spec L2 PyProof.Rows PySem.StrLaws
section
variable {X : Cx} {B : Bs} {W : WX}
theorem det_of {e : Expr} {f : DE} (h : PE X e (denE B W f)) : PET X e (denE B W f) := CwR.PET.of h
theorem det_if {c a b : Expr} {pos : Pos} {t : DT} {f g : DE} (hc : PT X c (denT B W t)) (ha : PET X a (denE B W f)) (hb : PET X b (denE B W g)) : PET X (.IfExp c a b pos) (denE B W (dIf t f g)) := by
  intro pins s σ H Q h0 I ⟨Hk, m, F, sl, S, R, R2, q⟩
  refine wpAny_IfExp (thnT h0 (hc.run pins s σ H _ I (den_step (rel := relT) (k := fun c S1 => if c = true then f sl S1 else g sl S1) R R2 q)) fun d s1 t1 ⟨H1, I1, m1, F1, S1, x, R1, R21, G, r1, p⟩ => ?_)
  cases r1
  cases d with
  | true => exact ha pins s1 σ H1 Q t1 I1 ⟨Hk, m1, F1, sl, S1, R1, R21, p⟩
  | false => exact hb pins s1 σ H1 Q t1 I1 ⟨Hk, m1, F1, sl, S1, R1, R21, p⟩
theorem det_lst1 {e : Expr} {f : DE} {pos : Pos} (h : PET X e (denE B W f)) (hs : starEach [e] X.env = (false, eval e X.env) :: starEach [] X.env := by rfl) : PET X (.List [e] pos) (denE B W (dLst (aCons f aNil))) :=
  PET_weak (pet_lst (pat_one h hs)) fun σ H Q q => by
    have h2 := w_dA (r := fun xs H1 Q => xs.length ≤ sizeLine ∧ ∀ p, H1 p = none → Q (.ref p) (upd H1 p (.lst xs))) (B := B) (W := W) (f := aCons f aNil) (k := fun xs S => (toDs xs S).bind fun ds S3 => if fits ds then .ok (.d (.lst ds)) S3 else .bad) (fun Hk σ m F S H vs xs Q R r p => by
      obtain ⟨ds, F', S', R', G, h, p⟩ := post_toDs R r p
      split at p
      · rename_i hz
        have hz : ds.length ≤ 16777216 := of_decide_eq_true hz
        refine ⟨by rw [h.len, szl]; exact hz, fun a ha => ?_⟩
        obtain ⟨R2, G2⟩ := R'.newF (o := .lst vs) ha
        exact p _ _ _ _ R2 G2 (.d (.lst (.inl upd_same) (h.mono (same_own (R'.none ha)))))
      · exact False.elim p) q
    exact w_one h2
theorem det_op {op : Operator} {a b : Expr} {r : R2} {f g : DE} {k : Val → Val → Sto → Out Val} {pos : Pos} (ho : OpR X (binaryOp op) r) (ha : PET X a (denE B W f)) (hb : PET X b (denE B W g)) (hp : Prim2 B W r k) : PET X (.BinOp a op b pos) (denE B W (d2 f g k)) :=
  PET_weak (CwR.pet_op ho ha hb) fun σ H Q q => w_d2 hp q
/-- a written text's join -/
theorem de_joinT {e : Expr} {f : DE} {st : List Nat} {j : Nat} {p1 apos cpos : Pos} (hB : BX B X) (he : PET X e (denE B W f))
    (hbase : attributeBase (.Constant (.str ⟨st.toArray⟩) j p1) "join" X.env (eval (.Constant (.str ⟨st.toArray⟩) j p1) X.env) = eval (.Constant (.str ⟨st.toArray⟩) j p1) X.env := by rfl)
    (hfew : ((backTo cpos (starEach [e] X.env)).all (fun x => !x.1) && (backToKw cpos (keywordEach [] X.env)).all (fun x => x.1.isSome) && decide (([e] : List Expr).length + ([] : List Keyword).length + (if ([] : List Keyword).isEmpty then 0 else 1) < 30)) = true := by rfl)
    (hline : (apos.endLine == cpos.line) = true := by rfl) (hs : starEach [e] X.env = (false, eval e X.env) :: starEach [] X.env := by rfl) (hplain : (backTo cpos (starEach [] X.env)).any (·.1) = false := by rfl) :
    PE X (.Call (.Attribute (.Constant (.str ⟨st.toArray⟩) j p1) "join" apos) [e] [] cpos) (denE B W (dMt isStr (rdM1 joinD) (dC (.str st)) (aCons f aNil))) := by
  refine ⟨fun pins s σ H Q I h => wpAny_Call_method_late hbase hfew hline rfl (Calls.Constant_str ⟨"str", _, PySem.F.plainAttrs_str, PySem.F.slot_str_join, PySem.F.type_str_join, typeIs_str _ _ _, (fun _ e => nomatch e), ?_⟩)⟩
  obtain ⟨Hk, m, F, sl, S, R, R2, q⟩ := h
  have q : post B W (relE B) Hk σ m F H ((aCons f aNil sl S).bind fun xs S2 => rdM1 joinD (.d (.str st)) xs S2) Q := q
  have hA := pat_one he hs cpos pins { s with toks := s.toks + 1 } σ H _ (by show 1 ≤ s.toks + 1; omega) (I.tok _) (w_one (den_step (rel := relA B) (rel2 := relE B) (k := fun xs S2 => rdM1 joinD (.d (.str st)) xs S2) R R2 q))
  rw [hs] at hA ⊢
  refine Calls.callWith_builtin (by show (false || (backTo cpos (starEach [] X.env)).any (·.1)) = false; rw [hplain] <;> rfl) (Calls.evalArgs_plain (thn hA fun us s2 ⟨vs, H2, J2, r2, m2, F2, S2, xs, R3, R23, G2, rx, p2⟩ => ?_))
  exact mt_join pins s2 σ H2 (.str ⟨st.toArray⟩) vs _ us Q J2 ⟨_, rfl⟩ r2 (p_join hB Hk σ m2 F2 S2 H2 (.str ⟨st.toArray⟩) (.d (.str st)) vs xs Q R3 (.d (.str st)) rx p2)
end
end Dn

set_option Elab.async false
set_option linter.all false
set_option maxRecDepth 100000
set_option maxHeartbeats 2000000
/-! Dn: try .. except of the text's own base class. -/
namespace Dn
open PySem PySem.Spec L2 PyProof.Rows
/-- a class that catches the first n own ones -/
structure LeapB (B : Bs) (n : Nat) (x : Str) : Prop where
  ex : ∃ CS, B.mg x = some (.ref CS) ∧ ∀ c, c < n → PySem.W.exmOne B.K (.ref (B.exA c)) (.ref CS) = some true
section
variable {X : Cx} {B : Bs} {W : WX}
theorem ds_tryL {k n : Nat} {x : Str} {np pos pos' : Pos} {body suite : List Stmt} {b₀ : Stmt} {b h : DS} (c : CtxOk B X W k) (L : LeapB B n x)
    (hb : ∀ (W' : WX) (pn : List (Addr × Obj)) (xe : Value → Shared → Prop), CtxOk B (X.tr pn xe) W' k → PSs (X.tr pn xe) body (denS B W' b))
    (hh : ∀ (a : Addr) (pn : List (Addr × Obj)), PSs (X.suite a pn) (b₀ :: suite) (denS B WF h))
    (hg : Gl X x := by rfl) (hdb : (x == ("__debug__" : Str)) = false := by decide) (hs : X.stack = X.env :: X.outer := by rfl) (hf : X.env.frame = some X.env.locals := by rfl) :
    PS X (.Try body [.ExceptHandler (some (.Name x np)) none (b₀ :: suite) pos'] [] [] pos) (denS B W (sTry n b h)) := by
  obtain ⟨CS, h1, h2⟩ := L.ex
  exact ds_try c hs hf ⟨hg, hdb, .inl (by rw [← c.bx.mg]; exact h1)⟩ h2 hb hh
end
theorem leapB_of {P : Program} {w : World} {K : PySem.W.Frag} {mg : Str → Option Value} {base : Heap} {clA : Nat → Addr} {fN : Nat → List Str} {names : List Str} {x : Str} (X : K.In base) (G : base.Ns mainGlobals mg) (h1 : (He.Fa.glo x).ok K = true) (h2 : errB K names x = true) : LeapB (mkB P w K mg clA fN (exOf K names)) names.length x :=
  ⟨⟨He.ga K x, He.glo_ok X G h1, exmB_of h2 rfl rfl⟩⟩
end Dn

set_option Elab.async false
set_option linter.all false
set_option maxRecDepth 100000
set_option maxHeartbeats 2000000
/-! Dn: isinstance(x, C), x an instance of an own class. -/
namespace Dn
open PySem PySem.Spec PyProof.Rows L2 He
def kIsO (c : Nat) (x : Val) (S : Sto) : Out Val := match x with
  | .r n => (match S[n]? with
    | some (.obj C' _) => if C' = c then .ok (.d (.bl true)) S else .bad
    | _ => .bad)
  | .d _ => .bad
/-- what isinstance asks of an own class -/
structure IsB (B : Bs) (c : Nat) (y : Str) : Prop where
  ins : C8.InsC B.K (B.clA c)
  g : B.mg y = some (.ref (B.clA c))
theorem IsB.cv {B : Bs} {c : Nat} {y : Str} (h : IsB B c y) (j : JP) : IsB (setJ B j) c y := ⟨h.ins, h.g⟩
section
variable {X : Cx} {B : Bs} {W : WX}
theorem de_isO {c : Nat} {f : DE} {y : Str} {p p2 pos : Pos} {e : Expr} (hB : BX B X) (I : IsB B c y) (hm : X.mg "isinstance" = none) (he : PE X e (denE B W f))
    (hg : Gl X "isinstance" := by rfl) (hg2 : Gl X y := by rfl) (hdb2 : (y == ("__debug__" : Str)) = false := by decide)
    (hs : starEach [e, .Name y p2] X.env = (false, eval e X.env) :: starEach [.Name y p2] X.env := by rfl) (hpl : (backTo pos (starEach [.Name y p2] X.env)).any (·.1) = false := by rfl) :
    PE X (.Call (.Name "isinstance" p) [e, .Name y p2] [] pos) (denE B W (d1 f (kIsO c))) :=
  de1 (PE_weak (pe_callB (C8.call_isC (hB.K ▸ I.ins)) hg hm (by rfl) (pa_cons he (pa_cons (pe_glob (v := .ref (B.clA c)) (u := .ref (B.clA c)) hg2 (by rw [← hB.mg]; exact I.g) rfl hdb2) pa_nil rfl) hs) (by decide) (by decide) hs hpl) fun σ H Q q => den_mono q fun x H1 ⟨a, dx, fs, e, h, qq⟩ => (show ∃ a dx fs, [x, V.ref (B.clA c)] = [V.ref a, V.ref (B.clA c)] ∧ H1 a = some (.ins (B.clA c) dx fs) ∧ Q (.bl true) H1 from ⟨a, dx, fs, by rw [e], h, qq⟩))
    (r := fun x H Q => ∃ a dx fs, x = .ref a ∧ H a = some (.ins (B.clA c) dx fs) ∧ Q (.bl true) H) fun Hk σ m F S H v x Q R rx p => by
      unfold kIsO at p
      cases x with
      | d x => exact False.elim p
      | r n =>
        dsimp only at p
        cases e1 : S[n]? with
        | none => rw [e1] at p; exact False.elim p
        | some cell =>
          rw [e1] at p
          cases cell with
          | obj C' fs =>
            dsimp only at p
            by_cases hc : C' = c
            · rw [if_pos hc] at p
              subst hc
              cases rx with
              | r hn =>
                obtain ⟨_, dx, vs, h1, _⟩ := R.cell _ _ _ hn e1
                exact ⟨_, dx, vs, rfl, h1, p _ H m F R (Grow.refl _ _ _) (.d (.bl true))⟩
            · rw [if_neg hc] at p; exact False.elim p
          | _ => exact False.elim p
end
/-- a check of it -/
def insCB (K : PySem.W.Frag) (C : Addr) : Bool := eqO (PySem.W.findIn K (.ref C) "__class__") (some (some (.builtin "object.__class__"))) && (eqO (PySem.W.specialIn K (.builtin "object.__class__") "__get__") (some (some (.builtin "getset_descriptor.__get__"))) &&
  (decide (PySem.W.takesIn K (.builtin "object.__class__") = some true) && (decide (PySem.W.mroIn K C (.type "object") = some true) && decide (PySem.W.kitOne K (.ref C) (.ref C) = some true))))
theorem isB_of {P : Program} {w : World} {K : PySem.W.Frag} {mg : Str → Option Value} {base : Heap} {clA : Nat → Addr} {fN : Nat → List Str} {exA : Nat → Addr} {c : Nat} {x : Str} (hc : clA c = ga K x) (X : K.In base) (G : base.Ns mainGlobals mg) (h1 : (He.Fa.glo x).ok K = true) (h2 : (He.Fa.cls x).ok K = true) (h3 : insCB K (ga K x) = true) : IsB (mkB P w K mg clA fN exA) c x := by
  obtain ⟨a1, b⟩ := ba h3
  obtain ⟨a2, b⟩ := ba b
  obtain ⟨a3, b⟩ := ba b
  obtain ⟨a4, a5⟩ := ba b
  refine ⟨?_, ?_⟩
  · show C8.InsC K (clA c)
    rw [hc]; exact ⟨He.cls_ok h2, eqO_ok a1, eqO_ok a2, of_decide_eq_true a3, of_decide_eq_true a4, of_decide_eq_true a5⟩
  · show mg x = some (.ref (clA c))
    rw [hc]; exact He.glo_ok X G h1
end Dn

set_option Elab.async false
set_option linter.all false
set_option maxRecDepth 100000
set_option maxHeartbeats 2000000
/-! Dn: several defs with lambdas: their tables are told apart. -/
namespace Dn
open PySem PySem.Spec PyProof.Rows L2 He
def ndB : List Nat → Bool
  | [] => true
  | a :: l => !(l.any fun b => a == b) && ndB l
/-- the lambdas' tables of some defs are all different -/
def tabsB (K : PySem.W.Frag) (l : List Str) : Bool := ndB (l.map fun x => (He.cT K (x, none)).2)
theorem ndB_u {α : Type _} {f : α → Nat} : ∀ {l : List α}, ndB (l.map f) = true → ∀ {x y : α}, x ∈ l → y ∈ l → f x = f y → x = y
  | a :: l, h, x, y, hx, hy, e => by
    rw [List.map_cons, ndB, Bool.and_eq_true] at h
    have no : ∀ z ∈ l, f a ≠ f z := fun z hz e1 => by
      have h1 := h.1
      rw [Bool.not_eq_true', List.any_eq_false] at h1
      exact h1 (f z) (List.mem_map_of_mem hz) (beq_iff_eq.mpr e1)
    rcases List.mem_cons.mp hx with e1 | hx
    · rcases List.mem_cons.mp hy with e2 | hy
      · rw [e1, e2]
      · rw [e1] at e; exact (no y hy e).elim
    · rcases List.mem_cons.mp hy with e2 | hy
      · rw [e2] at e; exact (no x hx e.symm).elim
      · exact ndB_u h.2 hx hy e
theorem tab_u {K : PySem.W.Frag} {L : List (Str × Str)} {N : List Str} (hN : L.map (·.1) = N) (h : tabsB K N = true) {x : Str × Str} (hx : x ∈ L) : ∀ p ∈ tabT K L, p.1 = (He.cT K (x.1, none)).2 → p.2 = x.2 := by
  intro p hp e
  obtain ⟨y, hy, rfl⟩ := List.mem_map.mp hp
  subst hN
  have h1 : ndB (L.map fun x => (He.cT K (x.1, none)).2) = true := by
    unfold tabsB at h
    rw [List.map_map] at h
    exact h
  rw [ndB_u h1 hy hx e]
theorem tab_m {K : PySem.W.Frag} {L : List (Str × Str)} {x : Str × Str} (hx : x ∈ L) : ((He.cT K (x.1, none)).2, x.2) ∈ tabT K L := List.mem_map_of_mem (f := fun x : Str × Str => ((He.cT K (x.1, none)).2, x.2)) hx
end Dn

set_option Elab.async false
set_option linter.all false
set_option maxRecDepth 100000
set_option maxHeartbeats 4000000
namespace Dn
open PySem L2 PyProof.Rows
def top (i : Nat) : Stmt := PySem.Challenge.pw_menleap_k92_matches_refused.main.body.getD i (.Pass ⟨0, 0, 0, 0⟩)
def c_LEAST : D := .int 3
def c_MOST : D := .int 10
def c_SIDES : D := .tup [.str [119], .str [98]]
def k_OWN : List (List Nat × D) := [([119], .str [119, 87]), ([98], .str [98, 66])]
def k_OTHER : List (List Nat × D) := [([119], .str [98]), ([98], .str [119])]
def c_KINGS : D := .str [87, 66]
def c_WAYS : D := .tup [.tup [.int (-1), .int (-1)], .tup [.int (-1), .int 1], .tup [.int 1, .int (-1)], .tup [.int 1, .int 1]]
def c_FIGURES_notes : D := .str [48, 49, 50, 51, 52, 53, 54, 55, 56, 57]
def c_MOST_QUIET : D := .int 100
def c_MOST_TICKS : D := .int 1000
def c_FIGURES_matches : D := .str [48, 49, 50, 51, 52, 53, 54, 55, 56, 57]
def fN : Nat → List Str
  | 0 => ["side", "height", "width", "signs"]
  | 1 => ["bound", "stands", "played", "quiets"]
  | 2 => ["game", "ticks", "spent", "ended"]
  | _ => []
section
variable {P : Program} {w : World} {K : PySem.W.Frag} {mg : Str → Option Value} {base : Heap} {clA : Nat → Addr} {exA : Nat → Addr} {f : Addr} {fd : FuncData}
abbrev s_need_stands : Stmt := (top 18)
theorem sc_need_stands : FnScope ["good"] ["good"] (defScope s_need_stands) := ⟨rfl, rfl, rfl, by decide +kernel, rfl, by decide +kernel, by decide +kernel⟩
def g_need_stands : DS :=
    (sIf (Dn.tNot (tB (dVar 0)))
    (sRaise 0)
    sNil)
def F_need_stands : List D → Ret := pureOf 1 g_need_stands
theorem b_need_stands (h_BadStand : ExcB (mkB P w K mg clA fN exA) "BadStand" 0) : Body P w K mg base (mkB P w K mg clA fN exA) ["good"] "need" (defScope s_need_stands) f (defBody s_need_stands) 0 g_need_stands := fun cdv A outer s H E hr => by
  have c := ctx_of (B := mkB P w K mg clA fN exA) (P := P) (w := w) (K := K) (mg := mg) (base := base) (outer := outer) (H := H) (E := E) ⟨rfl, rfl, rfl, rfl⟩ sc_need_stands.nd hr
  exact (ds_one (ds_if (dt_not (dt_of (pt_val (de_var 0)) fun _ _ _ q => q))
    (ds_one (ds_raise c.calm c.tk (h_BadStand.to c.bx) rfl))
    ds_nil))
abbrev s_is_size : Stmt := (top 20)
theorem sc_is_size : FnScope ["thing"] ["thing"] (defScope s_is_size) := ⟨rfl, rfl, rfl, by decide +kernel, rfl, by decide +kernel, by decide +kernel⟩
def g_is_size : DS :=
    (sRet (dAnd (d1 (dVar 0) (kIs "int")) (dAnd (dNot (d1 (dVar 0) (kIs "bool"))) (dChain (dC c_LEAST) (dVar 0) (dC c_MOST) (rd2 dLe) (rd2 dLe)))))
def F_is_size : List D → Ret := pureOf 1 g_is_size
theorem b_is_size (z_bool : mg "bool" = none) (z_int : mg "int" = none) (z_isinstance : mg "isinstance" = none) (h_LEAST : GC (mkB P w K mg clA fN exA) "LEAST" c_LEAST) (h_MOST : GC (mkB P w K mg clA fN exA) "MOST" c_MOST) : Body P w K mg base (mkB P w K mg clA fN exA) ["thing"] "is_size" (defScope s_is_size) f (defBody s_is_size) 0 g_is_size := fun cdv A outer s H E hr => by
  have c := ctx_of (B := mkB P w K mg clA fN exA) (P := P) (w := w) (K := K) (mg := mg) (base := base) (outer := outer) (H := H) (E := E) ⟨rfl, rfl, rfl, rfl⟩ sc_is_size.nd hr
  exact (ds_one (ds_ret (de_and (de_isi "int" c.bx rfl z_isinstance (by decide +kernel) rfl z_int (by decide +kernel) (by decide) (de_var 0)) (de_and (de_not (de_isi "bool" c.bx rfl z_isinstance (by decide +kernel) rfl z_bool (by decide +kernel) (by decide) (de_var 0))) (de_one (de_chain op_le op_le (de_gc c.bx h_LEAST) (de_var 0) (de_gc c.bx h_MOST) p_cmp p_cmp))))))
abbrev s_is_dark : Stmt := (top 21)
theorem sc_is_dark : FnScope ["row", "column"] ["row", "column"] (defScope s_is_dark) := ⟨rfl, rfl, rfl, by decide +kernel, rfl, by decide +kernel, by decide +kernel⟩
def g_is_dark : DS :=
    (sRet (d2 (d2 (d2 (dVar 0) (dVar 1) (rd2 addD)) (dC (.int 2)) (rd2 modD)) (dC (.int 1)) (rd2 eqD)))
def F_is_dark : List D → Ret := pureOf 2 g_is_dark
theorem b_is_dark  : Body P w K mg base (mkB P w K mg clA fN exA) ["row", "column"] "is_dark" (defScope s_is_dark) f (defBody s_is_dark) 0 g_is_dark := fun cdv A outer s H E hr => by
  have c := ctx_of (B := mkB P w K mg clA fN exA) (P := P) (w := w) (K := K) (mg := mg) (base := base) (outer := outer) (H := H) (E := E) ⟨rfl, rfl, rfl, rfl⟩ sc_is_dark.nd hr
  exact (ds_one (ds_ret (de2 (pe_cmpR (op_eqD c.hu64) (de2 (pe_op op_mod (de2 (pe_op op_addAll (de_var 0) (de_var 1)) (p_add c.bx.K)) de_int) p_mod) de_int (nomark _)) (p_eq c.bx))))
abbrev s_last_row : Stmt := (top 22)
theorem sc_last_row : FnScope ["side", "height"] ["side", "height"] (defScope s_last_row) := ⟨rfl, rfl, rfl, by decide +kernel, rfl, by decide +kernel, by decide +kernel⟩
def g_last_row : DS :=
    (sRet (dIf (tB (d2 (dVar 0) (dC (.str [119])) (rd2 eqD))) (dC (.int 0)) (d2 (dVar 1) (dC (.int 1)) (rd2 subD))))
def F_last_row : List D → Ret := pureOf 2 g_last_row
theorem b_last_row  : Body P w K mg base (mkB P w K mg clA fN exA) ["side", "height"] "last_row" (defScope s_last_row) f (defBody s_last_row) 0 g_last_row := fun cdv A outer s H E hr => by
  have c := ctx_of (B := mkB P w K mg clA fN exA) (P := P) (w := w) (K := K) (mg := mg) (base := base) (outer := outer) (H := H) (E := E) ⟨rfl, rfl, rfl, rfl⟩ sc_last_row.nd hr
  exact (ds_one (ds_ret (de_if (dt2 (pt_cmpR (op_eqD c.hu64) (de_var 0) (de_str [119]) (nomark _)) (p_eq c.bx)) de_int (de2 (pe_op op_sub (de_var 1) de_int) p_sub))))
abbrev s_need_square : Stmt := (top 23)
theorem sc_need_square : FnScope ["sign", "row", "column", "height"] ["sign", "row", "column", "height"] (defScope s_need_square) := ⟨rfl, rfl, rfl, by decide +kernel, rfl, by decide +kernel, by decide +kernel⟩
def g_need_square : DS :=
    (sIf (Dn.tNot (tB (dCall F_is_dark (aCons (dVar 1) (aCons (dVar 2) aNil)))))
    (sExpr (dCall F_need_stands (aCons (d2 (dVar 0) (dC (.str [32])) (rd2 eqD)) aNil)))
    (sSeq (sExpr (dCall F_need_stands (aCons (d2 (dVar 0) (dTup (aCons (dC (.str [46])) (aCons (dC (.str [119])) (aCons (dC (.str [87])) (aCons (dC (.str [98])) (aCons (dC (.str [66])) aNil)))))) (kIn false)) aNil)))
    (sExpr (dCall F_need_stands (aCons (dOr (d2 (dVar 0) (dC c_SIDES) (kIn true)) (d2 (dVar 1) (dCall F_last_row (aCons (dVar 0) (aCons (dVar 3) aNil))) (rd2 neD))) aNil)))))
def F_need_square : List D → Ret := pureOf 4 g_need_square
theorem b_need_square (h_SIDES : GC (mkB P w K mg clA fN exA) "SIDES" c_SIDES) (h_is_dark : FnB P w K mg base 1 "is_dark" ["row", "column"] (spP (mkB P w K mg clA fN exA) 2 F_is_dark)) (h_last_row : FnB P w K mg base 1 "last_row" ["side", "height"] (spP (mkB P w K mg clA fN exA) 2 F_last_row)) (h_need_stands : FnB P w K mg base 1 "need_stands" ["good"] (spP (mkB P w K mg clA fN exA) 1 F_need_stands)) : Body P w K mg base (mkB P w K mg clA fN exA) ["sign", "row", "column", "height"] "need_square" (defScope s_need_square) f (defBody s_need_square) 1 g_need_square := fun cdv A outer s H E hr => by
  have c := ctx_of (B := mkB P w K mg clA fN exA) (P := P) (w := w) (K := K) (mg := mg) (base := base) (outer := outer) (H := H) (E := E) ⟨rfl, rfl, rfl, rfl⟩ sc_need_square.nd hr
  exact (ds_one (ds_if (dt_not (dt_of (pt_val (cb_call c h_is_dark (by omega) (a_cons (de_var 1) (a_cons (de_var 2) a_nil)) (len_cons (len_cons len_nil)))) fun _ _ _ q => q))
    (ds_one (ds_expr (cb_call c h_need_stands (by omega) (a_cons (de2 (pe_cmpR (op_eqD c.hu64) (de_var 0) (de_str [32]) (nomark _)) (p_eq c.bx)) a_nil) (len_cons len_nil))))
    (ds_cons (ds_expr (cb_call c h_need_stands (by omega) (a_cons (de2 (pe_cmpR (op_inC c.bx c.hu) (de_var 0) (de_tup (a_cons (de_str [46]) (a_cons (de_str [119]) (a_cons (de_str [87]) (a_cons (de_str [98]) (a_cons (de_str [66]) a_nil)))))) rfl) (p_inC c.bx false)) a_nil) (len_cons len_nil)))
    (ds_one (ds_expr (cb_call c h_need_stands (by omega) (a_cons (de_or (de2 (pe_cmpR (op_notInC c.bx c.hu) (de_var 0) (de_gc c.bx h_SIDES) rfl) (p_inC c.bx true)) (de_one (de2 (pe_cmpR (op_neD c.hu64) (de_var 1) (cb_call c h_last_row (by omega) (a_cons (de_var 0) (a_cons (de_var 3) a_nil)) (len_cons (len_cons len_nil))) (nomark _)) (p_ne c.bx)))) a_nil) (len_cons len_nil)))))))
abbrev s_need_stand : Stmt := (top 24)
theorem sc_need_stand : FnScope ["stand", "rows", "side", "row", "text", "column", "sign"] ["stand"] (defScope s_need_stand) := ⟨rfl, rfl, rfl, by decide +kernel, rfl, by decide +kernel, by decide +kernel⟩
def g_need_stand : DS :=
    (sSeq (sExpr (dCall F_need_stands (aCons (dAnd (d1 (dVar 0) (kIs "tuple")) (dAnd (d2 (dA (aCons (dVar 0) aNil) kLen) (dC (.int 2)) (rd2 eqD)) (dAnd (d1 (d2 (dVar 0) (dC (.int 0)) kIx) (kIs "tuple")) (dCall F_is_size (aCons (dA (aCons (d2 (dVar 0) (dC (.int 0)) kIx) aNil) kLen) aNil))))) aNil)))
    (sSeq (sAsg (dVar 0) (nTup 2 (nCons (nName 1) (nCons (nName 2) nNil))))
    (sSeq (sExpr (dCall F_need_stands (aCons (dAnd (d1 (dVar 2) (kIs "str")) (dAnd (d2 (dVar 2) (dC c_SIDES) (kIn false)) (dAnd (d1 (d2 (dVar 1) (dC (.int 0)) kIx) (kIs "str")) (dCall F_is_size (aCons (dA (aCons (d2 (dVar 1) (dC (.int 0)) kIx) aNil) kLen) aNil))))) aNil)))
    (sFor (iEnum' (dVar 1)) (nTup 2 (nCons (nName 3) (nCons (nName 4) nNil)))
    (sSeq (sExpr (dCall F_need_stands (aCons (dAnd (d1 (dVar 4) (kIs "str")) (d2 (dA (aCons (dVar 4) aNil) kLen) (dA (aCons (d2 (dVar 1) (dC (.int 0)) kIx) aNil) kLen) (rd2 eqD))) aNil)))
    (sFor (iEnum' (dVar 4)) (nTup 2 (nCons (nName 5) (nCons (nName 6) nNil)))
    (sExpr (dCall F_need_square (aCons (dVar 6) (aCons (dVar 3) (aCons (dVar 5) (aCons (dA (aCons (dVar 1) aNil) kLen) aNil))))))))))))
def F_need_stand : List D → Ret := pureOf 7 g_need_stand
theorem b_need_stand (z_enumerate : mg "enumerate" = none) (z_isinstance : mg "isinstance" = none) (z_len : mg "len" = none) (z_str : mg "str" = none) (z_tuple : mg "tuple" = none) (h_SIDES : GC (mkB P w K mg clA fN exA) "SIDES" c_SIDES) (h_is_size : FnB P w K mg base 1 "is_size" ["thing"] (spP (mkB P w K mg clA fN exA) 1 F_is_size)) (h_need_square : FnB P w K mg base 2 "need_square" ["sign", "row", "column", "height"] (spP (mkB P w K mg clA fN exA) 4 F_need_square)) (h_need_stands : FnB P w K mg base 1 "need_stands" ["good"] (spP (mkB P w K mg clA fN exA) 1 F_need_stands)) : Body P w K mg base (mkB P w K mg clA fN exA) ["stand", "rows", "side", "row", "text", "column", "sign"] "need_stand" (defScope s_need_stand) f (defBody s_need_stand) 2 g_need_stand := fun cdv A outer s H E hr => by
  have c := ctx_of (B := mkB P w K mg clA fN exA) (P := P) (w := w) (K := K) (mg := mg) (base := base) (outer := outer) (H := H) (E := E) ⟨rfl, rfl, rfl, rfl⟩ sc_need_stand.nd hr
  exact (ds_cons (ds_expr (cb_call c h_need_stands (by omega) (a_cons (de_and (de_isi "tuple" c.bx rfl z_isinstance (by decide +kernel) rfl z_tuple (by decide +kernel) (by decide) (de_var 0)) (de_and (de2 (pe_cmpR (op_eqD c.hu64) (de_cB call_lenA (p_len c.bx) rfl z_len (by decide +kernel) (a_cons (de_var 0) a_nil)) de_int (nomark _)) (p_eq c.bx)) (de_and (de_isi "tuple" c.bx rfl z_isinstance (by decide +kernel) rfl z_tuple (by decide +kernel) (by decide) (de2 (pe_ix (ix_C c.bx c.hu) (de_var 0) de_int (fun _ _ => rfl)) (p_ixC c.bx))) (de_one (cb_call c h_is_size (by omega) (a_cons (de_cB call_lenA (p_len c.bx) rfl z_len (by decide +kernel) (a_cons (de2 (pe_ix (ix_C c.bx c.hu) (de_var 0) de_int (fun _ _ => rfl)) (p_ixC c.bx)) a_nil)) a_nil) (len_cons len_nil)))))) a_nil) (len_cons len_nil)))
    (ds_cons (ds_asg (de_var 0) (dg_tup c.bx c.calm (dgs_cons (dg_name 1 c.nd) (dgs_cons (dg_name 2 c.nd) dgs_nil))))
    (ds_cons (ds_expr (cb_call c h_need_stands (by omega) (a_cons (de_and (de_isi "str" c.bx rfl z_isinstance (by decide +kernel) rfl z_str (by decide +kernel) (by decide) (de_var 2)) (de_and (de2 (pe_cmpR (op_inC c.bx c.hu) (de_var 2) (de_gc c.bx h_SIDES) rfl) (p_inC c.bx false)) (de_and (de_isi "str" c.bx rfl z_isinstance (by decide +kernel) rfl z_str (by decide +kernel) (by decide) (de2 (pe_ix (ix_C c.bx c.hu) (de_var 1) de_int (fun _ _ => rfl)) (p_ixC c.bx))) (de_one (cb_call c h_is_size (by omega) (a_cons (de_cB call_lenA (p_len c.bx) rfl z_len (by decide +kernel) (a_cons (de2 (pe_ix (ix_C c.bx c.hu) (de_var 1) de_int (fun _ _ => rfl)) (p_ixC c.bx)) a_nil)) a_nil) (len_cons len_nil)))))) a_nil) (len_cons len_nil)))
    (ds_one (ds_for c.po c.calm (di_enum c.bx rfl z_enumerate (de_var 1)) (dg_tup c.bx c.calm (dgs_cons (dg_name 3 c.nd) (dgs_cons (dg_name 4 c.nd) dgs_nil)))
    (ds_cons (ds_expr (cb_call c h_need_stands (by omega) (a_cons (de_and (de_isi "str" c.bx rfl z_isinstance (by decide +kernel) rfl z_str (by decide +kernel) (by decide) (de_var 4)) (de_one (de2 (pe_cmpR (op_eqD c.hu64) (de_cB call_lenA (p_len c.bx) rfl z_len (by decide +kernel) (a_cons (de_var 4) a_nil)) (de_cB call_lenA (p_len c.bx) rfl z_len (by decide +kernel) (a_cons (de2 (pe_ix (ix_C c.bx c.hu) (de_var 1) de_int (fun _ _ => rfl)) (p_ixC c.bx)) a_nil)) (nomark _)) (p_eq c.bx)))) a_nil) (len_cons len_nil)))
    (ds_one (ds_for c.po c.calm (di_enum c.bx rfl z_enumerate (de_var 4)) (dg_tup c.bx c.calm (dgs_cons (dg_name 5 c.nd) (dgs_cons (dg_name 6 c.nd) dgs_nil)))
    (ds_one (ds_expr (cb_call c h_need_square (by omega) (a_cons (de_var 6) (a_cons (de_var 3) (a_cons (de_var 5) (a_cons (de_cB call_lenA (p_len c.bx) rfl z_len (by decide +kernel) (a_cons (de_var 1) a_nil)) a_nil)))) (len_cons (len_cons (len_cons (len_cons len_nil)))))))))))))))
abbrev s_begin : Stmt := (top 25)
theorem sc_begin : FnScope ["height", "width", "filled", "rows", "row", "sign", "column"] ["height", "width", "filled"] (defScope s_begin) := ⟨rfl, rfl, rfl, by decide +kernel, rfl, by decide +kernel, by decide +kernel⟩
def g_begin : DS :=
    (sSeq (sExpr (dCall F_need_stands (aCons (dAnd (dCall F_is_size (aCons (dVar 0) aNil)) (dCall F_is_size (aCons (dVar 1) aNil))) aNil)))
    (sSeq (sExpr (dCall F_need_stands (aCons (dAnd (d1 (dVar 2) (kIs "int")) (dAnd (dNot (d1 (dVar 2) (kIs "bool"))) (dAnd (d2 (dC (.int 0)) (dVar 2) (rd2 dLe)) (d2 (d2 (dC (.int 2)) (dVar 2) (rd2 mulI)) (dVar 0) (rd2 dLt))))) aNil)))
    (sSeq (sSet 3 (cLst aNil))
    (sSeq (sFor (iRange (aCons (dVar 0) aNil)) (nName 4)
    (sSeq (sSet 5 (dIf (tB (d2 (dVar 4) (dVar 2) (rd2 dLt))) (dC (.str [98])) (dIf (tB (d2 (dVar 4) (d2 (dVar 0) (dVar 2) (rd2 subD)) (rd2 dGe))) (dC (.str [119])) (dC (.str [46])))))
    (sExpr (dMt isLst kApp (dVar 3) (aCons (dMt isStr (rdM1 joinD) (dC (.str [])) (aCons (dLc (iRange (aCons (dVar 1) aNil)) (fName 6) tYesD (dIf (tB (dCall F_is_dark (aCons (dVar 4) (aCons (dVar 6) aNil)))) (dVar 5) (dC (.str [32]))) [6]) aNil)) aNil)))))
    (sRet (dTup (aCons (dA (aCons (dVar 3) aNil) (rdA1 tupOfD)) (aCons (dC (.str [119])) aNil))))))))
def F_begin : List D → Ret := pureOf 7 g_begin
theorem b_begin (z_bool : mg "bool" = none) (z_int : mg "int" = none) (z_isinstance : mg "isinstance" = none) (z_range : mg "range" = none) (z_tuple : mg "tuple" = none) (h_is_dark : FnB P w K mg base 1 "is_dark" ["row", "column"] (spP (mkB P w K mg clA fN exA) 2 F_is_dark)) (h_is_size : FnB P w K mg base 1 "is_size" ["thing"] (spP (mkB P w K mg clA fN exA) 1 F_is_size)) (h_need_stands : FnB P w K mg base 1 "need_stands" ["good"] (spP (mkB P w K mg clA fN exA) 1 F_need_stands)) : Body P w K mg base (mkB P w K mg clA fN exA) ["height", "width", "filled", "rows", "row", "sign", "column"] "begin" (defScope s_begin) f (defBody s_begin) 1 g_begin := fun cdv A outer s H E hr => by
  have c := ctx_of (B := mkB P w K mg clA fN exA) (P := P) (w := w) (K := K) (mg := mg) (base := base) (outer := outer) (H := H) (E := E) ⟨rfl, rfl, rfl, rfl⟩ sc_begin.nd hr
  exact (ds_cons (ds_expr (cb_call c h_need_stands (by omega) (a_cons (de_and (cb_call c h_is_size (by omega) (a_cons (de_var 0) a_nil) (len_cons len_nil)) (de_one (cb_call c h_is_size (by omega) (a_cons (de_var 1) a_nil) (len_cons len_nil)))) a_nil) (len_cons len_nil)))
    (ds_cons (ds_expr (cb_call c h_need_stands (by omega) (a_cons (de_and (de_isi "int" c.bx rfl z_isinstance (by decide +kernel) rfl z_int (by decide +kernel) (by decide) (de_var 2)) (de_and (de_not (de_isi "bool" c.bx rfl z_isinstance (by decide +kernel) rfl z_bool (by decide +kernel) (by decide) (de_var 2))) (de_and (de2 (pe_cmpR op_le de_int (de_var 2) (nomark _)) p_cmp) (de_one (de2 (pe_cmpR op_lt (de2 (pe_op op_mulAll de_int (de_var 2)) (p_mulI _)) (de_var 0) (nomark _)) p_cmp))))) a_nil) (len_cons len_nil)))
    (ds_cons (ds_set 3 c.nd (de_lstC a_nil))
    (ds_cons (ds_for c.po c.calm (di_range1 rfl z_range (a_cons (de_var 0) a_nil) (len_cons len_nil)) (dg_name 4 c.nd)
    (ds_cons (ds_set 5 c.nd (de_if (dt2 (pt_cmpR op_lt (de_var 4) (de_var 2) (nomark _)) p_cmp) (de_str [98]) (de_if (dt2 (pt_cmpR op_ge (de_var 4) (de2 (pe_op op_sub (de_var 0) (de_var 2)) p_sub) (nomark _)) p_cmp) (de_str [119]) (de_str [46]))))
    (ds_one (ds_expr (de_mt PySem.F.plainAttrs_list PySem.F.slot_list_append PySem.F.type_list_append mt_append tp_lst p_app (de_var 3) (a_cons (de_mt PySem.F.plainAttrs_str PySem.F.slot_str_join PySem.F.type_str_join mt_join tp_str (p_join c.bx) (de_str []) (a_cons (de_lc fin_D [("column", 6)] c.calm c.nd (di_range1 rfl z_range (a_cons (de_var 1) a_nil) (len_cons len_nil)) (blkOk_by (N := ["height", "width", "filled", "rows", "row", "sign", "column"]) (sc := defScope s_begin) (by decide +kernel)) (fun _ _ _ _ _ => (df_name 6 c.blk.nd)) (fun _ _ _ _ _ => dts_nil) (fun _ _ _ _ _ => (de_if (dt_of (pt_val (cb_call c.blk h_is_dark (by omega) (a_cons (de_var 4) (a_cons (de_var 6) a_nil)) (len_cons (len_cons len_nil)))) fun _ _ _ q => q) (de_var 5) (de_str [32])))) a_nil)) a_nil))))))
    (ds_one (ds_ret (de_tup (a_cons (de_cT call_tuple_of (p_tupOf c.bx) rfl z_tuple (by decide +kernel) (a_cons (de_var 3) a_nil)) (a_cons (de_str [119]) a_nil)))))))))
abbrev s_Board_init : Stmt := (inClass (top 28) 0)
theorem no_Board_init : ("__init__" : Str) ∉ fN 0 := by decide +kernel
theorem sc_Board_init : FnScope ["self", "stand", "rows", "row", "text", "column", "sign"] ["self", "stand"] (defScope s_Board_init) := ⟨rfl, rfl, rfl, by decide +kernel, rfl, by decide +kernel, by decide +kernel⟩
def g_Board_init : DS :=
    (sSeq (sAsg (dVar 1) (nTup 2 (nCons (nName 2) (nCons (nFld 0 0 0) nNil))))
    (sSeq (sAsg (dA (aCons (dVar 2) aNil) kLen) (nFld 0 1 0))
    (sSeq (sAsg (dA (aCons (d2 (dVar 2) (dC (.int 0)) kIx) aNil) kLen) (nFld 0 2 0))
    (sSeq (sAsg cDct (nFld 0 3 0))
    (sFor (iEnum' (dVar 2)) (nTup 2 (nCons (nName 3) (nCons (nName 4) nNil)))
    (sFor (iEnum' (dVar 4)) (nTup 2 (nCons (nName 5) (nCons (nName 6) nNil)))
    (sAsg (dVar 6) (nSub (dFld 0 3 (dVar 0)) (dTup (aCons (dVar 3) (aCons (dVar 5) aNil)))))))))))
def M_Board_init : List Val → Sto → Out Val := methOf 7 g_Board_init
theorem b_Board_init (z_enumerate : mg "enumerate" = none) (z_len : mg "len" = none) (C_Board : ClB (mkB P w K mg clA fN exA) 0 4) : Body P w K mg base (mkB P w K mg clA fN exA) ["self", "stand", "rows", "row", "text", "column", "sign"] "Board.__init__" (defScope s_Board_init) f (defBody s_Board_init) 0 g_Board_init := fun cdv A outer s H E hr => by
  have c := ctx_of (B := mkB P w K mg clA fN exA) (P := P) (w := w) (K := K) (mg := mg) (base := base) (outer := outer) (H := H) (E := E) ⟨rfl, rfl, rfl, rfl⟩ sc_Board_init.nd hr
  exact (ds_cons (ds_asg (de_var 1) (dg_tup c.bx c.calm (dgs_cons (dg_name 2 c.nd) (dgs_cons (cg_fld (W := wE E) 0 c C_Board (i := 0) rfl (de_var 0)) dgs_nil))))
    (ds_cons (ds_asg (de_cB call_lenA (p_len c.bx) rfl z_len (by decide +kernel) (a_cons (de_var 2) a_nil)) (cg_fld (W := wE E) 0 c C_Board (i := 1) rfl (de_var 0)))
    (ds_cons (ds_asg (de_cB call_lenA (p_len c.bx) rfl z_len (by decide +kernel) (a_cons (de2 (pe_ix (ix_C c.bx c.hu) (de_var 2) de_int (fun _ _ => rfl)) (p_ixC c.bx)) a_nil)) (cg_fld (W := wE E) 0 c C_Board (i := 2) rfl (de_var 0)))
    (ds_cons (ds_asg (de_dct c.bx) (cg_fld (W := wE E) 0 c C_Board (i := 3) rfl (de_var 0)))
    (ds_one (ds_for c.po c.calm (di_enum c.bx rfl z_enumerate (de_var 2)) (dg_tup c.bx c.calm (dgs_cons (dg_name 3 c.nd) (dgs_cons (dg_name 4 c.nd) dgs_nil)))
    (ds_one (ds_for c.po c.calm (di_enum c.bx rfl z_enumerate (de_var 4)) (dg_tup c.bx c.calm (dgs_cons (dg_name 5 c.nd) (dgs_cons (dg_name 6 c.nd) dgs_nil)))
    (ds_one (ds_asg (de_var 6) (dg_sub (W := wE E) c.bx c.hu (cb_fld c C_Board (i := 3) rfl (de_var 0)) (de_tup (a_cons (de_var 3) (a_cons (de_var 5) a_nil))))))))))))))
abbrev s_Board_own : Stmt := (inClass (top 28) 2)
theorem no_Board_own : ("own" : Str) ∉ fN 0 := by decide +kernel
theorem sc_Board_own : FnScope ["self", "square"] ["self"] (defScope s_Board_own) := ⟨rfl, rfl, rfl, by decide +kernel, rfl, by decide +kernel, by decide +kernel⟩
def g_Board_own : DS :=
    (sRet (dLc (iSeq (dA (aCons (dFld 0 3 (dVar 0)) aNil) kSorted)) (fName 1) (tB (d2 (d2 (dFld 0 3 (dVar 0)) (dVar 1) kIx) (dKD k_OWN (dFld 0 0 (dVar 0))) (kIn false))) (dVar 1) [1]))
def M_Board_own : List Val → Sto → Out Val := methT 2 g_Board_own
theorem b_Board_own (z_sorted : mg "sorted" = none) (C_Board : ClB (mkB P w K mg clA fN exA) 0 4) (h_OWN : KD (mkB P w K mg clA fN exA) w "OWN" k_OWN) : Body P w K mg base (mkB P w K mg clA fN exA) ["self", "square"] "Board.own" (defScope s_Board_own) f (defBody s_Board_own) 0 g_Board_own := fun cdv A outer s H E hr => by
  have c := ctx_of (B := mkB P w K mg clA fN exA) (P := P) (w := w) (K := K) (mg := mg) (base := base) (outer := outer) (H := H) (E := E) ⟨rfl, rfl, rfl, rfl⟩ sc_Board_own.nd hr
  exact (ds_one (ds_ret (de_lc fin_D [("square", 1)] c.calm c.nd (di_seq c.bx (de_cB (call_sortA c.calm c.bx c.hu) (p_sorted c.bx) rfl z_sorted (by decide +kernel) (a_cons (cb_fld c C_Board (i := 3) rfl (de_var 0)) a_nil))) (blkOk_by (N := ["self", "square"]) (sc := defScope s_Board_own) (by decide +kernel)) (fun _ _ _ _ _ => (df_name 1 c.blk.nd)) (fun _ _ _ _ _ => (dts_one (dt2 (pt_cmpR (op_inC c.blk.bx c.blk.hu) (de2 (pe_ix (ix_C c.blk.bx c.blk.hu) (cb_fld c.blk C_Board (i := 3) rfl (de_var 0)) (de_var 1) (fun _ _ => rfl)) (p_ixC c.blk.bx)) (de_kd c.blk.bx h_OWN (cb_fld c.blk C_Board (i := 0) rfl (de_var 0))) rfl) (p_inC c.blk.bx false)))) (fun _ _ _ _ _ => (de_var 1)))))
abbrev s_Board_sign : Stmt := (inClass (top 28) 1)
theorem no_Board_sign : ("sign" : Str) ∉ fN 0 := by decide +kernel
theorem sc_Board_sign : FnScope ["self", "square"] ["self", "square"] (defScope s_Board_sign) := ⟨rfl, rfl, rfl, by decide +kernel, rfl, by decide +kernel, by decide +kernel⟩
def g_Board_sign : DS :=
    (sRet (dMt isDct kGet (dFld 0 3 (dVar 0)) (aCons (dVar 1) (aCons (dC (.str [])) aNil))))
def M_Board_sign : List Val → Sto → Out Val := methT 2 g_Board_sign
theorem b_Board_sign (C_Board : ClB (mkB P w K mg clA fN exA) 0 4) : Body P w K mg base (mkB P w K mg clA fN exA) ["self", "square"] "Board.sign" (defScope s_Board_sign) f (defBody s_Board_sign) 0 g_Board_sign := fun cdv A outer s H E hr => by
  have c := ctx_of (B := mkB P w K mg clA fN exA) (P := P) (w := w) (K := K) (mg := mg) (base := base) (outer := outer) (H := H) (E := E) ⟨rfl, rfl, rfl, rfl⟩ sc_Board_sign.nd hr
  exact (ds_one (ds_ret (de_mt PySem.F.plainAttrs_dict PySem.F.slot_dict_get PySem.F.type_dict_get (mt_getA c.bx c.hu) tp_dct p_get (cb_fld c C_Board (i := 3) rfl (de_var 0)) (a_cons (de_var 1) (a_cons (de_str []) a_nil)))))
abbrev s_Board_free : Stmt := (inClass (top 28) 4)
theorem no_Board_free : ("free" : Str) ∉ fN 0 := by decide +kernel
theorem sc_Board_free : FnScope ["self", "squares", "found", "square"] ["self", "squares"] (defScope s_Board_free) := ⟨rfl, rfl, rfl, by decide +kernel, rfl, by decide +kernel, by decide +kernel⟩
def g_Board_free : DS :=
    (sSeq (sSet 2 (cLst aNil))
    (sSeq (sFor (iSeq (dVar 1)) (nName 3)
    (sSeq (sIf (tB (d2 (dMeth M_Board_sign 0 (dVar 0) (aCons (dVar 3) aNil)) (dC (.str [46])) (rd2 neD)))
    (sRet (dVar 2))
    sNil)
    (sExpr (dMt isLst kApp (dVar 2) (aCons (dVar 3) aNil)))))
    (sRet (dVar 2))))
def M_Board_free : List Val → Sto → Out Val := methT 4 g_Board_free
theorem b_Board_free (C_Board : ClB (mkB P w K mg clA fN exA) 0 4) (h_Board_sign : MtB P w K mg base 1 (clA 0) "sign" ["self", "square"] (spM (mkB P w K mg clA fN exA) 2 M_Board_sign)) : Body P w K mg base (mkB P w K mg clA fN exA) ["self", "squares", "found", "square"] "Board.free" (defScope s_Board_free) f (defBody s_Board_free) 1 g_Board_free := fun cdv A outer s H E hr => by
  have c := ctx_of (B := mkB P w K mg clA fN exA) (P := P) (w := w) (K := K) (mg := mg) (base := base) (outer := outer) (H := H) (E := E) ⟨rfl, rfl, rfl, rfl⟩ sc_Board_free.nd hr
  exact (ds_cons (ds_set 2 c.nd (de_lstC a_nil))
    (ds_cons (ds_for c.po c.calm (di_seq c.bx (de_var 1)) (dg_name 3 c.nd)
    (ds_cons (ds_if (dt2 (pt_cmpR (op_neD c.hu64) (cb_meth c C_Board h_Board_sign (by omega) (de_var 0) (a_cons (de_var 3) a_nil) (len_cons len_nil) no_Board_sign) (de_str [46]) (nomark _)) (p_ne c.bx))
    (ds_one (ds_ret (de_var 2)))
    ds_nil)
    (ds_one (ds_expr (de_mt PySem.F.plainAttrs_list PySem.F.slot_list_append PySem.F.type_list_append mt_append tp_lst p_app (de_var 2) (a_cons (de_var 3) a_nil))))))
    (ds_one (ds_ret (de_var 2)))))
abbrev s_Board_ray : Stmt := (inClass (top 28) 3)
theorem no_Board_ray : ("ray" : Str) ∉ fN 0 := by decide +kernel
theorem sc_Board_ray : FnScope ["self", "square", "way", "found", "here"] ["self", "square", "way"] (defScope s_Board_ray) := ⟨rfl, rfl, rfl, by decide +kernel, rfl, by decide +kernel, by decide +kernel⟩
def g_Board_ray : DS :=
    (sSeq (sSet 3 (cLst aNil))
    (sSeq (sSet 4 (dTup (aCons (d2 (d2 (dVar 1) (dC (.int 0)) kIx) (d2 (dVar 2) (dC (.int 0)) kIx) (rd2 addD)) (aCons (d2 (d2 (dVar 1) (dC (.int 1)) kIx) (d2 (dVar 2) (dC (.int 1)) kIx) (rd2 addD)) aNil))))
    (sSeq (sWhile 11 (tB (d2 (dVar 4) (dFld 0 3 (dVar 0)) (kIn false)))
    (sSeq (sExpr (dMt isLst kApp (dVar 3) (aCons (dVar 4) aNil)))
    (sSet 4 (dTup (aCons (d2 (d2 (dVar 4) (dC (.int 0)) kIx) (d2 (dVar 2) (dC (.int 0)) kIx) (rd2 addD)) (aCons (d2 (d2 (dVar 4) (dC (.int 1)) kIx) (d2 (dVar 2) (dC (.int 1)) kIx) (rd2 addD)) aNil))))))
    (sRet (dVar 3)))))
def M_Board_ray : List Val → Sto → Out Val := methT 5 g_Board_ray
theorem b_Board_ray (C_Board : ClB (mkB P w K mg clA fN exA) 0 4) : Body P w K mg base (mkB P w K mg clA fN exA) ["self", "square", "way", "found", "here"] "Board.ray" (defScope s_Board_ray) f (defBody s_Board_ray) 0 g_Board_ray := fun cdv A outer s H E hr => by
  have c := ctx_of (B := mkB P w K mg clA fN exA) (P := P) (w := w) (K := K) (mg := mg) (base := base) (outer := outer) (H := H) (E := E) ⟨rfl, rfl, rfl, rfl⟩ sc_Board_ray.nd hr
  exact (ds_cons (ds_set 3 c.nd (de_lstC a_nil))
    (ds_cons (ds_set 4 c.nd (de_tup (a_cons (de2 (pe_op op_addAll (de2 (pe_ix (ix_C c.bx c.hu) (de_var 1) de_int (fun _ _ => rfl)) (p_ixC c.bx)) (de2 (pe_ix (ix_C c.bx c.hu) (de_var 2) de_int (fun _ _ => rfl)) (p_ixC c.bx))) (p_add c.bx.K)) (a_cons (de2 (pe_op op_addAll (de2 (pe_ix (ix_C c.bx c.hu) (de_var 1) de_int (fun _ _ => rfl)) (p_ixC c.bx)) (de2 (pe_ix (ix_C c.bx c.hu) (de_var 2) de_int (fun _ _ => rfl)) (p_ixC c.bx))) (p_add c.bx.K)) a_nil))))
    (ds_cons (ds_while 11 c.po (dt2 (pt_cmpR (op_inC c.bx c.hu) (de_var 4) (cb_fld c C_Board (i := 3) rfl (de_var 0)) rfl) (p_inC c.bx false))
    (ds_cons (ds_expr (de_mt PySem.F.plainAttrs_list PySem.F.slot_list_append PySem.F.type_list_append mt_append tp_lst p_app (de_var 3) (a_cons (de_var 4) a_nil)))
    (ds_one (ds_set 4 c.nd (de_tup (a_cons (de2 (pe_op op_addAll (de2 (pe_ix (ix_C c.bx c.hu) (de_var 4) de_int (fun _ _ => rfl)) (p_ixC c.bx)) (de2 (pe_ix (ix_C c.bx c.hu) (de_var 2) de_int (fun _ _ => rfl)) (p_ixC c.bx))) (p_add c.bx.K)) (a_cons (de2 (pe_op op_addAll (de2 (pe_ix (ix_C c.bx c.hu) (de_var 4) de_int (fun _ _ => rfl)) (p_ixC c.bx)) (de2 (pe_ix (ix_C c.bx c.hu) (de_var 2) de_int (fun _ _ => rfl)) (p_ixC c.bx))) (p_add c.bx.K)) a_nil)))))))
    (ds_one (ds_ret (de_var 3))))))
abbrev s_Board_quiet : Stmt := (inClass (top 28) 5)
theorem no_Board_quiet : ("quiet" : Str) ∉ fN 0 := by decide +kernel
theorem sc_Board_quiet : FnScope ["self", "square", "is_king", "found", "way", "ray"] ["self", "square"] (defScope s_Board_quiet) := ⟨rfl, rfl, rfl, by decide +kernel, rfl, by decide +kernel, by decide +kernel⟩
def g_Board_quiet : DS :=
    (sSeq (sSet 2 (d2 (dMeth M_Board_sign 0 (dVar 0) (aCons (dVar 1) aNil)) (dC c_KINGS) (kIn false)))
    (sSeq (sSet 3 (cLst aNil))
    (sSeq (sFor (iSeq (dC c_WAYS)) (nName 4)
    (sSeq (sSet 5 (dMeth M_Board_ray 0 (dVar 0) (aCons (dVar 1) (aCons (dVar 4) aNil))))
    (sIf (tB (dVar 2))
    (sExpr (dMt isLst kExt (dVar 3) (aCons (dMeth M_Board_free 0 (dVar 0) (aCons (dVar 5) aNil)) aNil)))
    (sIf (tB (d2 (d2 (dVar 4) (dC (.int 0)) kIx) (dIf (tB (d2 (dFld 0 0 (dVar 0)) (dC (.str [119])) (rd2 eqD))) (d1 (dC (.int 1)) (rd1 negD)) (dC (.int 1))) (rd2 eqD)))
    (sExpr (dMt isLst kExt (dVar 3) (aCons (dMeth M_Board_free 0 (dVar 0) (aCons (dSl (dVar 5) oNone (oSome (dC (.int 1)))) aNil)) aNil)))
    sNil))))
    (sRet (dVar 3)))))
def M_Board_quiet : List Val → Sto → Out Val := methT 6 g_Board_quiet
theorem b_Board_quiet (C_Board : ClB (mkB P w K mg clA fN exA) 0 4) (h_KINGS : GC (mkB P w K mg clA fN exA) "KINGS" c_KINGS) (h_WAYS : GC (mkB P w K mg clA fN exA) "WAYS" c_WAYS) (h_Board_free : MtB P w K mg base 2 (clA 0) "free" ["self", "squares"] (spM (mkB P w K mg clA fN exA) 2 M_Board_free)) (h_Board_ray : MtB P w K mg base 1 (clA 0) "ray" ["self", "square", "way"] (spM (mkB P w K mg clA fN exA) 3 M_Board_ray)) (h_Board_sign : MtB P w K mg base 1 (clA 0) "sign" ["self", "square"] (spM (mkB P w K mg clA fN exA) 2 M_Board_sign)) : Body P w K mg base (mkB P w K mg clA fN exA) ["self", "square", "is_king", "found", "way", "ray"] "Board.quiet" (defScope s_Board_quiet) f (defBody s_Board_quiet) 2 g_Board_quiet := fun cdv A outer s H E hr => by
  have c := ctx_of (B := mkB P w K mg clA fN exA) (P := P) (w := w) (K := K) (mg := mg) (base := base) (outer := outer) (H := H) (E := E) ⟨rfl, rfl, rfl, rfl⟩ sc_Board_quiet.nd hr
  exact (ds_cons (ds_set 2 c.nd (de2 (pe_cmpR (op_inC c.bx c.hu) (cb_meth c C_Board h_Board_sign (by omega) (de_var 0) (a_cons (de_var 1) a_nil) (len_cons len_nil) no_Board_sign) (de_gc c.bx h_KINGS) rfl) (p_inC c.bx false)))
    (ds_cons (ds_set 3 c.nd (de_lstC a_nil))
    (ds_cons (ds_for c.po c.calm (di_seq c.bx (de_gc c.bx h_WAYS)) (dg_name 4 c.nd)
    (ds_cons (ds_set 5 c.nd (cb_meth c C_Board h_Board_ray (by omega) (de_var 0) (a_cons (de_var 1) (a_cons (de_var 4) a_nil)) (len_cons (len_cons len_nil)) no_Board_ray))
    (ds_one (ds_if (dt_of (pt_val (de_var 2)) fun _ _ _ q => q)
    (ds_one (ds_expr (de_mt PySem.F.plainAttrs_list PySem.F.slot_list_extend PySem.F.type_list_extend mt_extR tp_lst p_ext (de_var 3) (a_cons (cb_meth c C_Board h_Board_free (by omega) (de_var 0) (a_cons (de_var 5) a_nil) (len_cons len_nil) no_Board_free) a_nil))))
    (ds_one (ds_if (dt2 (pt_cmpR (op_eqD c.hu64) (de2 (pe_ix (ix_C c.bx c.hu) (de_var 4) de_int (fun _ _ => rfl)) (p_ixC c.bx)) (de_if (dt2 (pt_cmpR (op_eqD c.hu64) (cb_fld c C_Board (i := 0) rfl (de_var 0)) (de_str [119]) (nomark _)) (p_eq c.bx)) (de1 (pe_un un_neg de_int) p_neg) de_int) (nomark _)) (p_eq c.bx))
    (ds_one (ds_expr (de_mt PySem.F.plainAttrs_list PySem.F.slot_list_extend PySem.F.type_list_extend mt_extR tp_lst p_ext (de_var 3) (a_cons (cb_meth c C_Board h_Board_free (by omega) (de_var 0) (a_cons (de_slice c.bx (de_var 5) o_none (o_some de_int)) a_nil) (len_cons len_nil) no_Board_free) a_nil))))
    ds_nil))))))
    (ds_one (ds_ret (de_var 3))))))
abbrev s_Board_leaps : Stmt := (inClass (top 28) 6)
theorem no_Board_leaps : ("leaps" : Str) ∉ fN 0 := by decide +kernel
theorem sc_Board_leaps : FnScope ["self", "square", "is_king", "taken", "found", "way", "ray", "ahead", "rest", "behind", "goal"] ["self", "square", "is_king", "taken"] (defScope s_Board_leaps) := ⟨rfl, rfl, rfl, by decide +kernel, rfl, by decide +kernel, by decide +kernel⟩
def g_Board_leaps : DS :=
    (sSeq (sSet 4 (cLst aNil))
    (sSeq (sFor (iSeq (dC c_WAYS)) (nName 5)
    (sSeq (sSet 6 (dMeth M_Board_ray 0 (dVar 0) (aCons (dVar 1) (aCons (dVar 5) aNil))))
    (sSeq (sSet 7 (dIf (tB (dVar 2)) (dMeth M_Board_free 0 (dVar 0) (aCons (dVar 6) aNil)) (dLst aNil)))
    (sSeq (sSet 8 (dSl (dVar 6) (oSome (dA (aCons (dVar 7) aNil) kLen)) oNone))
    (sIf (Dn.tAnd (tB (d2 (dVar 8) (dLst aNil) (rd2 neD))) (Dn.tAnd (tB (d2 (dMeth M_Board_sign 0 (dVar 0) (aCons (d2 (dVar 8) (dC (.int 0)) kIx) aNil)) (dKD k_OWN (dKD k_OTHER (dFld 0 0 (dVar 0)))) (kIn false))) (tB (d2 (d2 (dVar 8) (dC (.int 0)) kIx) (dVar 3) (kIn true)))))
    (sSeq (sSet 9 (dMeth M_Board_free 0 (dVar 0) (aCons (dSl (dVar 8) (oSome (dC (.int 1))) oNone) aNil)))
    (sExpr (dMt isLst kExt (dVar 4) (aCons (dLc (iSeq (dIf (tB (dVar 2)) (dVar 9) (dSl (dVar 9) oNone (oSome (dC (.int 1)))))) (fName 10) tYesD (dTup (aCons (d2 (dVar 8) (dC (.int 0)) kIx) (aCons (dVar 10) aNil))) [10]) aNil))))
    sNil)))))
    (sRet (dVar 4))))
def M_Board_leaps : List Val → Sto → Out Val := methT 11 g_Board_leaps
theorem b_Board_leaps (z_len : mg "len" = none) (C_Board : ClB (mkB P w K mg clA fN exA) 0 4) (h_WAYS : GC (mkB P w K mg clA fN exA) "WAYS" c_WAYS) (h_OTHER : KD (mkB P w K mg clA fN exA) w "OTHER" k_OTHER) (h_OWN : KD (mkB P w K mg clA fN exA) w "OWN" k_OWN) (h_Board_free : MtB P w K mg base 2 (clA 0) "free" ["self", "squares"] (spM (mkB P w K mg clA fN exA) 2 M_Board_free)) (h_Board_ray : MtB P w K mg base 1 (clA 0) "ray" ["self", "square", "way"] (spM (mkB P w K mg clA fN exA) 3 M_Board_ray)) (h_Board_sign : MtB P w K mg base 1 (clA 0) "sign" ["self", "square"] (spM (mkB P w K mg clA fN exA) 2 M_Board_sign)) : Body P w K mg base (mkB P w K mg clA fN exA) ["self", "square", "is_king", "taken", "found", "way", "ray", "ahead", "rest", "behind", "goal"] "Board.leaps" (defScope s_Board_leaps) f (defBody s_Board_leaps) 2 g_Board_leaps := fun cdv A outer s H E hr => by
  have c := ctx_of (B := mkB P w K mg clA fN exA) (P := P) (w := w) (K := K) (mg := mg) (base := base) (outer := outer) (H := H) (E := E) ⟨rfl, rfl, rfl, rfl⟩ sc_Board_leaps.nd hr
  exact (ds_cons (ds_set 4 c.nd (de_lstC a_nil))
    (ds_cons (ds_for c.po c.calm (di_seq c.bx (de_gc c.bx h_WAYS)) (dg_name 5 c.nd)
    (ds_cons (ds_set 6 c.nd (cb_meth c C_Board h_Board_ray (by omega) (de_var 0) (a_cons (de_var 1) (a_cons (de_var 5) a_nil)) (len_cons (len_cons len_nil)) no_Board_ray))
    (ds_cons (ds_set 7 c.nd (de_if (dt_of (pt_val (de_var 2)) fun _ _ _ q => q) (cb_meth c C_Board h_Board_free (by omega) (de_var 0) (a_cons (de_var 6) a_nil) (len_cons len_nil) no_Board_free) (de_lst a_nil)))
    (ds_cons (ds_set 8 c.nd (de_slice c.bx (de_var 6) (o_some (de_cB call_lenA (p_len c.bx) rfl z_len (by decide +kernel) (a_cons (de_var 7) a_nil))) o_none))
    (ds_one (ds_if (PW.pt (dw_and (dt2 (pt_cmpR (op_neD c.hu64) (de_var 8) (de_lst a_nil) (nomark _)) (p_ne c.bx)) (dw_and (dt2 (pt_cmpR (op_inC c.bx c.hu) (cb_meth c C_Board h_Board_sign (by omega) (de_var 0) (a_cons (de2 (pe_ix (ix_C c.bx c.hu) (de_var 8) de_int (fun _ _ => rfl)) (p_ixC c.bx)) a_nil) (len_cons len_nil) no_Board_sign) (de_kd c.bx h_OWN (de_kd c.bx h_OTHER (cb_fld c C_Board (i := 0) rfl (de_var 0)))) rfl) (p_inC c.bx false)) (dw_and1 (dt2 (pt_cmpR (op_notInC c.bx c.hu) (de2 (pe_ix (ix_C c.bx c.hu) (de_var 8) de_int (fun _ _ => rfl)) (p_ixC c.bx)) (de_var 3) rfl) (p_inC c.bx true))))))
    (ds_cons (ds_set 9 c.nd (cb_meth c C_Board h_Board_free (by omega) (de_var 0) (a_cons (de_slice c.bx (de_var 8) (o_some de_int) o_none) a_nil) (len_cons len_nil) no_Board_free))
    (ds_one (ds_expr (de_mt PySem.F.plainAttrs_list PySem.F.slot_list_extend PySem.F.type_list_extend mt_extR tp_lst p_ext (de_var 4) (a_cons (de_lc fin_D [("goal", 10)] c.calm c.nd (di_seq c.bx (de_if (dt_of (pt_val (de_var 2)) fun _ _ _ q => q) (de_var 9) (de_slice c.bx (de_var 9) o_none (o_some de_int)))) (blkOk_by (N := ["self", "square", "is_king", "taken", "found", "way", "ray", "ahead", "rest", "behind", "goal"]) (sc := defScope s_Board_leaps) (by decide +kernel)) (fun _ _ _ _ _ => (df_name 10 c.blk.nd)) (fun _ _ _ _ _ => dts_nil) (fun _ _ _ _ _ => (de_tup (a_cons (de2 (pe_ix (ix_C c.blk.bx c.blk.hu) (de_var 8) de_int (fun _ _ => rfl)) (p_ixC c.blk.bx)) (a_cons (de_var 10) a_nil))))) a_nil)))))
    ds_nil))))))
    (ds_one (ds_ret (de_var 4)))))
abbrev s_Board_chains : Stmt := (inClass (top 28) 7)
theorem no_Board_chains : ("chains" : Str) ∉ fN 0 := by decide +kernel
theorem sc_Board_chains : FnScope ["self", "square", "is_king", "taken", "best", "prey", "goal", "chain", "longer"] ["self", "square", "is_king", "taken"] (defScope s_Board_chains) := ⟨rfl, rfl, rfl, by decide +kernel, rfl, by decide +kernel, by decide +kernel⟩
def g_Board_chains (Fr : List Val → Sto → Out Val) : DS :=
    (sSeq (sSet 4 (cLst (aCons (dLst aNil) aNil)))
    (sSeq (sFor (iSeq (dMeth M_Board_leaps 0 (dVar 0) (aCons (dVar 1) (aCons (dVar 2) (aCons (dVar 3) aNil))))) (nTup 2 (nCons (nName 5) (nCons (nName 6) nNil)))
    (sFor (iSeq (dMeth Fr 0 (dVar 0) (aCons (dVar 6) (aCons (dVar 2) (aCons (d2 (dVar 3) (dLst (aCons (dVar 5) aNil)) (rd2 addD)) aNil))))) (nName 7)
    (sSeq (sSet 8 (d2 (dLst (aCons (dTup (aCons (dVar 5) (aCons (dVar 6) aNil))) aNil)) (dVar 7) (rd2 addD)))
    (sSeq (sIf (tB (d2 (dA (aCons (dVar 8) aNil) kLen) (dA (aCons (d2 (dVar 4) (dC (.int 0)) kIx) aNil) kLen) (rd2 dGt)))
    (sSet 4 (cLst aNil))
    sNil)
    (sIf (Dn.tOr (tB (d2 (dVar 4) (dLst aNil) (rd2 eqD))) (tB (d2 (dA (aCons (dVar 8) aNil) kLen) (dA (aCons (d2 (dVar 4) (dC (.int 0)) kIx) aNil) kLen) (rd2 eqD))))
    (sExpr (dMt isLst kApp (dVar 4) (aCons (dVar 8) aNil)))
    sNil)))))
    (sRet (dVar 4))))
def M_Board_chains : Nat → List Val → Sto → Out Val
  | 0 => fun _ _ => .bad
  | n + 1 => methT 9 (g_Board_chains (M_Board_chains n))
theorem b_Board_chains (Fr : List Val → Sto → Out Val) (n : Nat) (z_len : mg "len" = none) (C_Board : ClB (mkB P w K mg clA fN exA) 0 4) (h_Board_chains : MtB P w K mg base (3 + n) (clA 0) "chains" ["self", "square", "is_king", "taken"] (spM (mkB P w K mg clA fN exA) 4 Fr)) (h_Board_leaps : MtB P w K mg base 3 (clA 0) "leaps" ["self", "square", "is_king", "taken"] (spM (mkB P w K mg clA fN exA) 4 M_Board_leaps)) : Body P w K mg base (mkB P w K mg clA fN exA) ["self", "square", "is_king", "taken", "best", "prey", "goal", "chain", "longer"] "Board.chains" (defScope s_Board_chains) f (defBody s_Board_chains) (3 + n) (g_Board_chains Fr) := fun cdv A outer s H E hr => by
  have c := ctx_of (B := mkB P w K mg clA fN exA) (P := P) (w := w) (K := K) (mg := mg) (base := base) (outer := outer) (H := H) (E := E) ⟨rfl, rfl, rfl, rfl⟩ sc_Board_chains.nd hr
  exact (ds_cons (ds_set 4 c.nd (de_lstC (a_cons (de_lst a_nil) a_nil)))
    (ds_cons (ds_for c.po c.calm (di_seq c.bx (cb_meth c C_Board h_Board_leaps (by omega) (de_var 0) (a_cons (de_var 1) (a_cons (de_var 2) (a_cons (de_var 3) a_nil))) (len_cons (len_cons (len_cons len_nil))) no_Board_leaps)) (dg_tup c.bx c.calm (dgs_cons (dg_name 5 c.nd) (dgs_cons (dg_name 6 c.nd) dgs_nil)))
    (ds_one (ds_for c.po c.calm (di_seq c.bx (cb_meth c C_Board h_Board_chains (by omega) (de_var 0) (a_cons (de_var 6) (a_cons (de_var 2) (a_cons (de2 (pe_op op_addAll (de_var 3) (de_lst (a_cons (de_var 5) a_nil))) (p_add c.bx.K)) a_nil))) (len_cons (len_cons (len_cons len_nil))) no_Board_chains)) (dg_name 7 c.nd)
    (ds_cons (ds_set 8 c.nd (de2 (pe_op op_addAll (de_lst (a_cons (de_tup (a_cons (de_var 5) (a_cons (de_var 6) a_nil))) a_nil)) (de_var 7)) (p_add c.bx.K)))
    (ds_cons (ds_if (dt2 (pt_cmpR op_gt (de_cB call_lenA (p_len c.bx) rfl z_len (by decide +kernel) (a_cons (de_var 8) a_nil)) (de_cB call_lenA (p_len c.bx) rfl z_len (by decide +kernel) (a_cons (de2 (pe_ix (ix_C c.bx c.hu) (de_var 4) de_int (fun _ _ => rfl)) (p_ixC c.bx)) a_nil)) (nomark _)) p_cmp)
    (ds_one (ds_set 4 c.nd (de_lstC a_nil)))
    ds_nil)
    (ds_one (ds_if (PW.pt (dw_or (dt2 (pt_cmpR (op_eqD c.hu64) (de_var 4) (de_lst a_nil) (nomark _)) (p_eq c.bx)) (dw_or1 (dt2 (pt_cmpR (op_eqD c.hu64) (de_cB call_lenA (p_len c.bx) rfl z_len (by decide +kernel) (a_cons (de_var 8) a_nil)) (de_cB call_lenA (p_len c.bx) rfl z_len (by decide +kernel) (a_cons (de2 (pe_ix (ix_C c.bx c.hu) (de_var 4) de_int (fun _ _ => rfl)) (p_ixC c.bx)) a_nil)) (nomark _)) (p_eq c.bx)))))
    (ds_one (ds_expr (de_mt PySem.F.plainAttrs_list PySem.F.slot_list_append PySem.F.type_list_append mt_append tp_lst p_app (de_var 4) (a_cons (de_var 8) a_nil))))
    ds_nil)))))))
    (ds_one (ds_ret (de_var 4)))))
abbrev s_Board_takes : Stmt := (inClass (top 28) 8)
theorem no_Board_takes : ("takes" : Str) ∉ fN 0 := by decide +kernel
theorem sc_Board_takes : FnScope ["self", "found", "square", "sign", "most", "chain"] ["self"] (defScope s_Board_takes) := ⟨rfl, rfl, rfl, by decide +kernel, rfl, by decide +kernel, by decide +kernel⟩
def g_Board_takes : DS :=
    (sSeq (sSet 1 (cLst aNil))
    (sSeq (sFor (iSeq (dMeth M_Board_own 0 (dVar 0) aNil)) (nName 2)
    (sSeq (sSet 3 (d2 (dFld 0 3 (dVar 0)) (dVar 2) kIx))
    (sSeq (sAsg (dC (.str [46])) (nSub (dFld 0 3 (dVar 0)) (dVar 2)))
    (sSeq (sExpr (dMt isLst kExt (dVar 1) (aCons (dLc (iSeq (dMeth (M_Board_chains 12) 0 (dVar 0) (aCons (dVar 2) (aCons (d2 (dVar 3) (dC c_KINGS) (kIn false)) (aCons (dLst aNil) aNil))))) (fName 5) (tB (d2 (dVar 5) (dLst aNil) (rd2 neD))) (dTup (aCons (dVar 2) (aCons (dVar 5) aNil))) [5]) aNil)))
    (sAsg (dVar 3) (nSub (dFld 0 3 (dVar 0)) (dVar 2)))))))
    (sSeq (sSet 4 (d2 (dLc (iSeq (dVar 1)) (fTup 2 (fCons (fName 2) (fCons (fName 5) fNil))) tYesD (dA (aCons (dVar 5) aNil) kLen) [2, 5]) (dC (.int 0)) kMaxDf))
    (sRet (dLc (iSeq (dVar 1)) (fTup 2 (fCons (fName 2) (fCons (fName 5) fNil))) (tB (d2 (dA (aCons (dVar 5) aNil) kLen) (dVar 4) (rd2 eqD))) (dTup (aCons (dVar 2) (aCons (dVar 5) aNil))) [2, 5])))))
def M_Board_takes : List Val → Sto → Out Val := methT 6 g_Board_takes
theorem b_Board_takes (z_len : mg "len" = none) (z_max : mg "max" = none) (C_Board : ClB (mkB P w K mg clA fN exA) 0 4) (h_KINGS : GC (mkB P w K mg clA fN exA) "KINGS" c_KINGS) (h_Board_chains : MtB P w K mg base 15 (clA 0) "chains" ["self", "square", "is_king", "taken"] (spM (mkB P w K mg clA fN exA) 4 (M_Board_chains 12))) (h_Board_own : MtB P w K mg base 1 (clA 0) "own" ["self"] (spM (mkB P w K mg clA fN exA) 1 M_Board_own)) : Body P w K mg base (mkB P w K mg clA fN exA) ["self", "found", "square", "sign", "most", "chain"] "Board.takes" (defScope s_Board_takes) f (defBody s_Board_takes) 15 g_Board_takes := fun cdv A outer s H E hr => by
  have c := ctx_of (B := mkB P w K mg clA fN exA) (P := P) (w := w) (K := K) (mg := mg) (base := base) (outer := outer) (H := H) (E := E) ⟨rfl, rfl, rfl, rfl⟩ sc_Board_takes.nd hr
  exact (ds_cons (ds_set 1 c.nd (de_lstC a_nil))
    (ds_cons (ds_for c.po c.calm (di_seq c.bx (cb_meth0 c C_Board h_Board_own (by omega) (de_var 0) no_Board_own)) (dg_name 2 c.nd)
    (ds_cons (ds_set 3 c.nd (de2 (pe_ix (ix_C c.bx c.hu) (cb_fld c C_Board (i := 3) rfl (de_var 0)) (de_var 2) (fun _ _ => rfl)) (p_ixC c.bx)))
    (ds_cons (ds_asg (de_str [46]) (dg_sub (W := wE E) c.bx c.hu (cb_fld c C_Board (i := 3) rfl (de_var 0)) (de_var 2)))
    (ds_cons (ds_expr (de_mt PySem.F.plainAttrs_list PySem.F.slot_list_extend PySem.F.type_list_extend mt_extR tp_lst p_ext (de_var 1) (a_cons (de_lc fin_D [("chain", 5)] c.calm c.nd (di_seq c.bx (cb_meth c C_Board h_Board_chains (by omega) (de_var 0) (a_cons (de_var 2) (a_cons (de2 (pe_cmpR (op_inC c.bx c.hu) (de_var 3) (de_gc c.bx h_KINGS) rfl) (p_inC c.bx false)) (a_cons (de_lst a_nil) a_nil))) (len_cons (len_cons (len_cons len_nil))) no_Board_chains)) (blkOk_by (N := ["self", "found", "square", "sign", "most", "chain"]) (sc := defScope s_Board_takes) (by decide +kernel)) (fun _ _ _ _ _ => (df_name 5 c.blk.nd)) (fun _ _ _ _ _ => (dts_one (dt2 (pt_cmpR (op_neD c.blk.hu64) (de_var 5) (de_lst a_nil) (nomark _)) (p_ne c.blk.bx)))) (fun _ _ _ _ _ => (de_tup (a_cons (de_var 2) (a_cons (de_var 5) a_nil))))) a_nil)))
    (ds_one (ds_asg (de_var 3) (dg_sub (W := wE E) c.bx c.hu (cb_fld c C_Board (i := 3) rfl (de_var 0)) (de_var 2))))))))
    (ds_cons (ds_set 4 c.nd (de_maxDf c.calm c.hu rfl z_max (by decide +kernel) (de_lc fin_D [("square", 2), ("chain", 5)] c.calm c.nd (di_seq c.bx (de_var 1)) (blkOk_by (N := ["self", "found", "square", "sign", "most", "chain"]) (sc := defScope s_Board_takes) (by decide +kernel)) (fun _ _ _ _ _ => (df_tup c.blk.bx c.blk.calm (dfs_cons (df_name 2 c.blk.nd) (dfs_cons (df_name 5 c.blk.nd) dfs_nil)))) (fun _ _ _ _ _ => dts_nil) (fun _ _ _ _ _ => (de_cB call_lenA (p_len c.blk.bx) rfl z_len (by decide +kernel) (a_cons (de_var 5) a_nil)))) de_int))
    (ds_one (ds_ret (de_lc fin_D [("square", 2), ("chain", 5)] c.calm c.nd (di_seq c.bx (de_var 1)) (blkOk_by (N := ["self", "found", "square", "sign", "most", "chain"]) (sc := defScope s_Board_takes) (by decide +kernel)) (fun _ _ _ _ _ => (df_tup c.blk.bx c.blk.calm (dfs_cons (df_name 2 c.blk.nd) (dfs_cons (df_name 5 c.blk.nd) dfs_nil)))) (fun _ _ _ _ _ => (dts_one (dt2 (pt_cmpR (op_eqD c.blk.hu64) (de_cB call_lenA (p_len c.blk.bx) rfl z_len (by decide +kernel) (a_cons (de_var 5) a_nil)) (de_var 4) (nomark _)) (p_eq c.blk.bx)))) (fun _ _ _ _ _ => (de_tup (a_cons (de_var 2) (a_cons (de_var 5) a_nil))))))))))
abbrev s_ways_of : Stmt := (top 29)
theorem sc_ways_of : FnScope ["stand", "board", "found", "square", "chain", "move", "goal", "prey"] ["stand"] (defScope s_ways_of) := ⟨rfl, rfl, rfl, by decide +kernel, rfl, by decide +kernel, by decide +kernel⟩
def g_ways_of : DS :=
    (sSeq (sSet 1 (dNew 0 4 M_Board_init (aCons (dVar 0) aNil)))
    (sSeq (sSet 2 cDct)
    (sSeq (sFor (iSeq (dMeth M_Board_takes 0 (dVar 1) aNil)) (nTup 2 (nCons (nName 3) (nCons (nName 4) nNil)))
    (sSeq (sSet 5 (d2 (dTup (aCons (dVar 3) aNil)) (dA (aCons (dLc (iSeq (dVar 4)) (fTup 2 (fCons (fName 7) (fCons (fName 6) fNil))) tYesD (dVar 6) [7, 6]) aNil) (rdA1 tupOfD)) (rd2 addD)))
    (sAsg (dLc (iSeq (dVar 4)) (fTup 2 (fCons (fName 7) (fCons (fName 6) fNil))) tYesD (dVar 7) [7, 6]) (nSub (dVar 2) (dVar 5)))))
    (sSeq (sIf (tB (d2 (dVar 2) cDct kEqE))
    (sFor (iSeq (dMeth M_Board_own 0 (dVar 1) aNil)) (nName 3)
    (sFor (iSeq (dMeth M_Board_quiet 0 (dVar 1) (aCons (dVar 3) aNil))) (nName 6)
    (sAsg (dLst aNil) (nSub (dVar 2) (dTup (aCons (dVar 3) (aCons (dVar 6) aNil)))))))
    sNil)
    (sRet (dVar 2))))))
def F_ways_of : List D → Ret := pureOf 8 g_ways_of
theorem b_ways_of (z_tuple : mg "tuple" = none) (C_Board : ClB (mkB P w K mg clA fN exA) 0 4) (h_Board_own : MtB P w K mg base 1 (clA 0) "own" ["self"] (spM (mkB P w K mg clA fN exA) 1 M_Board_own)) (h_Board_quiet : MtB P w K mg base 3 (clA 0) "quiet" ["self", "square"] (spM (mkB P w K mg clA fN exA) 2 M_Board_quiet)) (h_Board_takes : MtB P w K mg base 16 (clA 0) "takes" ["self"] (spM (mkB P w K mg clA fN exA) 1 M_Board_takes)) (h_Board_init : MkB P w K mg base 1 (clA 0) "Board" ["self", "stand"] (spM (mkB P w K mg clA fN exA) 2 M_Board_init)) : Body P w K mg base (mkB P w K mg clA fN exA) ["stand", "board", "found", "square", "chain", "move", "goal", "prey"] "ways_of" (defScope s_ways_of) f (defBody s_ways_of) 16 g_ways_of := fun cdv A outer s H E hr => by
  have c := ctx_of (B := mkB P w K mg clA fN exA) (P := P) (w := w) (K := K) (mg := mg) (base := base) (outer := outer) (H := H) (E := E) ⟨rfl, rfl, rfl, rfl⟩ sc_ways_of.nd hr
  exact (ds_cons (ds_set 1 c.nd (cb_new c C_Board h_Board_init (by omega) (a_cons (de_var 0) a_nil) (len_cons len_nil)))
    (ds_cons (ds_set 2 c.nd (de_dct c.bx))
    (ds_cons (ds_for c.po c.calm (di_seq c.bx (cb_meth0 c C_Board h_Board_takes (by omega) (de_var 1) no_Board_takes)) (dg_tup c.bx c.calm (dgs_cons (dg_name 3 c.nd) (dgs_cons (dg_name 4 c.nd) dgs_nil)))
    (ds_cons (ds_set 5 c.nd (de2 (pe_op op_addAll (de_tup (a_cons (de_var 3) a_nil)) (de_cT call_tuple_of (p_tupOf c.bx) rfl z_tuple (by decide +kernel) (a_cons (de_lc fin_D [("prey", 7), ("goal", 6)] c.calm c.nd (di_seq c.bx (de_var 4)) (blkOk_by (N := ["stand", "board", "found", "square", "chain", "move", "goal", "prey"]) (sc := defScope s_ways_of) (by decide +kernel)) (fun _ _ _ _ _ => (df_tup c.blk.bx c.blk.calm (dfs_cons (df_name 7 c.blk.nd) (dfs_cons (df_name 6 c.blk.nd) dfs_nil)))) (fun _ _ _ _ _ => dts_nil) (fun _ _ _ _ _ => (de_var 6))) a_nil))) (p_add c.bx.K)))
    (ds_one (ds_asg (de_lc fin_D [("prey", 7), ("goal", 6)] c.calm c.nd (di_seq c.bx (de_var 4)) (blkOk_by (N := ["stand", "board", "found", "square", "chain", "move", "goal", "prey"]) (sc := defScope s_ways_of) (by decide +kernel)) (fun _ _ _ _ _ => (df_tup c.blk.bx c.blk.calm (dfs_cons (df_name 7 c.blk.nd) (dfs_cons (df_name 6 c.blk.nd) dfs_nil)))) (fun _ _ _ _ _ => dts_nil) (fun _ _ _ _ _ => (de_var 7))) (dg_sub (W := wE E) c.bx c.hu (de_var 2) (de_var 5))))))
    (ds_cons (ds_if (dt2 (pt_cmpR (op_eqE c.hu) (de_var 2) (de_dct c.bx) (nomark _)) p_eqE)
    (ds_one (ds_for c.po c.calm (di_seq c.bx (cb_meth0 c C_Board h_Board_own (by omega) (de_var 1) no_Board_own)) (dg_name 3 c.nd)
    (ds_one (ds_for c.po c.calm (di_seq c.bx (cb_meth c C_Board h_Board_quiet (by omega) (de_var 1) (a_cons (de_var 3) a_nil) (len_cons len_nil) no_Board_quiet)) (dg_name 6 c.nd)
    (ds_one (ds_asg (de_lst a_nil) (dg_sub (W := wE E) c.bx c.hu (de_var 2) (de_tup (a_cons (de_var 3) (a_cons (de_var 6) a_nil))))))))))
    ds_nil)
    (ds_one (ds_ret (de_var 2)))))))
abbrev s_moves_moves : Stmt := (top 30)
theorem sc_moves_moves : FnScope ["stand"] ["stand"] (defScope s_moves_moves) := ⟨rfl, rfl, rfl, by decide +kernel, rfl, by decide +kernel, by decide +kernel⟩
def g_moves_moves : DS :=
    (sSeq (sExpr (dCall F_need_stand (aCons (dVar 0) aNil)))
    (sRet (dA (aCons (dCall F_ways_of (aCons (dVar 0) aNil)) aNil) kSorted)))
def F_moves_moves : List D → Ret := pureOf 1 g_moves_moves
theorem b_moves_moves (z_sorted : mg "sorted" = none) (h_need_stand : FnB P w K mg base 3 "need_stand" ["stand"] (spP (mkB P w K mg clA fN exA) 1 F_need_stand)) (h_ways_of : FnB P w K mg base 17 "ways_of" ["stand"] (spP (mkB P w K mg clA fN exA) 1 F_ways_of)) : Body P w K mg base (mkB P w K mg clA fN exA) ["stand"] "moves" (defScope s_moves_moves) f (defBody s_moves_moves) 17 g_moves_moves := fun cdv A outer s H E hr => by
  have c := ctx_of (B := mkB P w K mg clA fN exA) (P := P) (w := w) (K := K) (mg := mg) (base := base) (outer := outer) (H := H) (E := E) ⟨rfl, rfl, rfl, rfl⟩ sc_moves_moves.nd hr
  exact (ds_cons (ds_expr (cb_call c h_need_stand (by omega) (a_cons (de_var 0) a_nil) (len_cons len_nil)))
    (ds_one (ds_ret (de_cB (call_sortA c.calm c.bx c.hu) (p_sorted c.bx) rfl z_sorted (by decide +kernel) (a_cons (cb_call c h_ways_of (by omega) (a_cons (de_var 0) a_nil) (len_cons len_nil)) a_nil)))))
abbrev s_need_move : Stmt := (top 32)
theorem sc_need_move : FnScope ["stand", "move", "found"] ["stand", "move"] (defScope s_need_move) := ⟨rfl, rfl, rfl, by decide +kernel, rfl, by decide +kernel, by decide +kernel⟩
def g_need_move : DS :=
    (sSeq (sExpr (dCall F_need_stand (aCons (dVar 0) aNil)))
    (sSeq (sSet 2 (dCall F_ways_of (aCons (dVar 0) aNil)))
    (sSeq (sIf (tB (d2 (dVar 1) (dA (aCons (dVar 2) aNil) (rdA1 lstND)) (kIn true)))
    (sRaise 1)
    sNil)
    (sRet (d2 (dVar 2) (dVar 1) kIx)))))
def F_need_move : List D → Ret := pureOf 3 g_need_move
theorem b_need_move (z_list : mg "list" = none) (h_BadMove : ExcB (mkB P w K mg clA fN exA) "BadMove" 1) (h_need_stand : FnB P w K mg base 3 "need_stand" ["stand"] (spP (mkB P w K mg clA fN exA) 1 F_need_stand)) (h_ways_of : FnB P w K mg base 17 "ways_of" ["stand"] (spP (mkB P w K mg clA fN exA) 1 F_ways_of)) : Body P w K mg base (mkB P w K mg clA fN exA) ["stand", "move", "found"] "need_move" (defScope s_need_move) f (defBody s_need_move) 17 g_need_move := fun cdv A outer s H E hr => by
  have c := ctx_of (B := mkB P w K mg clA fN exA) (P := P) (w := w) (K := K) (mg := mg) (base := base) (outer := outer) (H := H) (E := E) ⟨rfl, rfl, rfl, rfl⟩ sc_need_move.nd hr
  exact (ds_cons (ds_expr (cb_call c h_need_stand (by omega) (a_cons (de_var 0) a_nil) (len_cons len_nil)))
    (ds_cons (ds_set 2 c.nd (cb_call c h_ways_of (by omega) (a_cons (de_var 0) a_nil) (len_cons len_nil)))
    (ds_cons (ds_if (dt2 (pt_cmpR (op_notInC c.bx c.hu) (de_var 1) (de_cT (call_list_dN c.calm c.bx) (p_lstN c.bx) rfl z_list (by decide +kernel) (a_cons (de_var 2) a_nil)) rfl) (p_inC c.bx true))
    (ds_one (ds_raise c.calm c.tk (h_BadMove.to c.bx) rfl))
    ds_nil)
    (ds_one (ds_ret (de2 (pe_ix (ix_C c.bx c.hu) (de_var 2) (de_var 1) (fun _ _ => rfl)) (p_ixC c.bx)))))))
abbrev s_moved : Stmt := (top 33)
theorem sc_moved : FnScope ["stand", "move", "prey", "rows", "side", "signs", "sign", "row", "column", "text"] ["stand", "move", "prey"] (defScope s_moved) := ⟨rfl, rfl, rfl, by decide +kernel, rfl, by decide +kernel, by decide +kernel⟩
def g_moved : DS :=
    (sSeq (sAsg (dVar 0) (nTup 2 (nCons (nName 3) (nCons (nName 4) nNil))))
    (sSeq (sSet 5 (cLc (iSeq (dVar 3)) (fName 9) tYesD (dA (aCons (dVar 9) aNil) kLstS) [9]))
    (sSeq (sSet 6 (d2 (d2 (dVar 3) (d2 (d2 (dVar 1) (dC (.int 0)) kIx) (dC (.int 0)) kIx) kIx) (d2 (d2 (dVar 1) (dC (.int 0)) kIx) (dC (.int 1)) kIx) kIx))
    (sSeq (sFor (iSeq (d2 (dVar 2) (dLst (aCons (d2 (dVar 1) (dC (.int 0)) kIx) aNil)) (rd2 addD))) (nTup 2 (nCons (nName 7) (nCons (nName 8) nNil)))
    (sAsg (dC (.str [46])) (nSub (d2 (dVar 5) (dVar 7) kIx) (dVar 8))))
    (sSeq (sAsg (d2 (dVar 1) (d1 (dC (.int 1)) (rd1 negD)) kIx) (nTup 2 (nCons (nName 7) (nCons (nName 8) nNil))))
    (sSeq (sAsg (dIf (tB (d2 (dVar 7) (dCall F_last_row (aCons (dVar 4) (aCons (dA (aCons (dVar 3) aNil) kLen) aNil))) (rd2 eqD))) (dMt isStr (rdM0 upD) (dVar 6) aNil) (dVar 6)) (nSub (d2 (dVar 5) (dVar 7) kIx) (dVar 8)))
    (sRet (dTup (aCons (dA (aCons (dLc (iSeq (dVar 5)) (fName 9) tYesD (dMt isStr (rdM1 joinD) (dC (.str [])) (aCons (dVar 9) aNil)) [9]) aNil) (rdA1 tupOfD)) (aCons (dKD k_OTHER (dVar 4)) aNil))))))))))
def F_moved : List D → Ret := pureOf 10 g_moved
theorem b_moved (z_len : mg "len" = none) (z_list : mg "list" = none) (z_tuple : mg "tuple" = none) (h_last_row : FnB P w K mg base 1 "last_row" ["side", "height"] (spP (mkB P w K mg clA fN exA) 2 F_last_row)) (h_OTHER : KD (mkB P w K mg clA fN exA) w "OTHER" k_OTHER) : Body P w K mg base (mkB P w K mg clA fN exA) ["stand", "move", "prey", "rows", "side", "signs", "sign", "row", "column", "text"] "moved" (defScope s_moved) f (defBody s_moved) 1 g_moved := fun cdv A outer s H E hr => by
  have c := ctx_of (B := mkB P w K mg clA fN exA) (P := P) (w := w) (K := K) (mg := mg) (base := base) (outer := outer) (H := H) (E := E) ⟨rfl, rfl, rfl, rfl⟩ sc_moved.nd hr
  exact (ds_cons (ds_asg (de_var 0) (dg_tup c.bx c.calm (dgs_cons (dg_name 3 c.nd) (dgs_cons (dg_name 4 c.nd) dgs_nil))))
    (ds_cons (ds_setLc 5 fin_C [("text", 9)] c.calm c.nd (di_seq c.bx (de_var 3)) (blkOk_by (N := ["stand", "move", "prey", "rows", "side", "signs", "sign", "row", "column", "text"]) (sc := defScope s_moved) (by decide +kernel)) (fun _ _ _ _ _ => (df_name 9 c.blk.nd)) (fun _ _ _ _ _ => dts_nil) (fun _ _ _ _ _ => (de_cT (call_listS c.blk.calm) p_lstS rfl z_list (by decide +kernel) (a_cons (de_var 9) a_nil))) (sw_true rfl rfl rfl (by decide +kernel)))
    (ds_cons (ds_set 6 c.nd (de2 (pe_ix (ix_C c.bx c.hu) (de2 (pe_ix (ix_C c.bx c.hu) (de_var 3) (de2 (pe_ix (ix_C c.bx c.hu) (de2 (pe_ix (ix_C c.bx c.hu) (de_var 1) de_int (fun _ _ => rfl)) (p_ixC c.bx)) de_int (fun _ _ => rfl)) (p_ixC c.bx)) (fun _ _ => rfl)) (p_ixC c.bx)) (de2 (pe_ix (ix_C c.bx c.hu) (de2 (pe_ix (ix_C c.bx c.hu) (de_var 1) de_int (fun _ _ => rfl)) (p_ixC c.bx)) de_int (fun _ _ => rfl)) (p_ixC c.bx)) (fun _ _ => rfl)) (p_ixC c.bx)))
    (ds_cons (ds_for c.po c.calm (di_seq c.bx (de2 (pe_op op_addAll (de_var 2) (de_lst (a_cons (de2 (pe_ix (ix_C c.bx c.hu) (de_var 1) de_int (fun _ _ => rfl)) (p_ixC c.bx)) a_nil))) (p_add c.bx.K))) (dg_tup c.bx c.calm (dgs_cons (dg_name 7 c.nd) (dgs_cons (dg_name 8 c.nd) dgs_nil)))
    (ds_one (ds_asg (de_str [46]) (dg_sub (W := wE E) c.bx c.hu (de2 (pe_ix (ix_C c.bx c.hu) (de_var 5) (de_var 7) (fun _ _ => rfl)) (p_ixC c.bx)) (de_var 8)))))
    (ds_cons (ds_asg (de2 (pe_ix (ix_C c.bx c.hu) (de_var 1) (de1 (pe_un un_neg de_int) p_neg) (fun _ _ => rfl)) (p_ixC c.bx)) (dg_tup c.bx c.calm (dgs_cons (dg_name 7 c.nd) (dgs_cons (dg_name 8 c.nd) dgs_nil))))
    (ds_cons (ds_asg (de_if (dt2 (pt_cmpR (op_eqD c.hu64) (de_var 7) (cb_call c h_last_row (by omega) (a_cons (de_var 4) (a_cons (de_cB call_lenA (p_len c.bx) rfl z_len (by decide +kernel) (a_cons (de_var 3) a_nil)) a_nil)) (len_cons (len_cons len_nil))) (nomark _)) (p_eq c.bx)) (de_mt0 PySem.F.plainAttrs_str PySem.F.slot_str_upper PySem.F.type_str_upper mt_upper tp_str p_upper (de_var 6)) (de_var 6)) (dg_sub (W := wE E) c.bx c.hu (de2 (pe_ix (ix_C c.bx c.hu) (de_var 5) (de_var 7) (fun _ _ => rfl)) (p_ixC c.bx)) (de_var 8)))
    (ds_one (ds_ret (de_tup (a_cons (de_cT call_tuple_of (p_tupOf c.bx) rfl z_tuple (by decide +kernel) (a_cons (de_lc fin_D [("text", 9)] c.calm c.nd (di_seq c.bx (de_var 5)) (blkOk_by (N := ["stand", "move", "prey", "rows", "side", "signs", "sign", "row", "column", "text"]) (sc := defScope s_moved) (by decide +kernel)) (fun _ _ _ _ _ => (df_name 9 c.blk.nd)) (fun _ _ _ _ _ => dts_nil) (fun _ _ _ _ _ => (de_mt PySem.F.plainAttrs_str PySem.F.slot_str_join PySem.F.type_str_join mt_join tp_str (p_join c.blk.bx) (de_str []) (a_cons (de_var 9) a_nil)))) a_nil)) (a_cons (de_kd c.bx h_OTHER (de_var 4)) a_nil)))))))))))
abbrev s_need_notes : Stmt := (top 36)
theorem sc_need_notes : FnScope ["good"] ["good"] (defScope s_need_notes) := ⟨rfl, rfl, rfl, by decide +kernel, rfl, by decide +kernel, by decide +kernel⟩
def g_need_notes : DS :=
    (sIf (Dn.tNot (tB (dVar 0)))
    (sRaise 2)
    sNil)
def F_need_notes : List D → Ret := pureOf 1 g_need_notes
theorem b_need_notes (h_BadText : ExcB (mkB P w K mg clA fN exA) "BadText" 2) : Body P w K mg base (mkB P w K mg clA fN exA) ["good"] "need" (defScope s_need_notes) f (defBody s_need_notes) 0 g_need_notes := fun cdv A outer s H E hr => by
  have c := ctx_of (B := mkB P w K mg clA fN exA) (P := P) (w := w) (K := K) (mg := mg) (base := base) (outer := outer) (H := H) (E := E) ⟨rfl, rfl, rfl, rfl⟩ sc_need_notes.nd hr
  exact (ds_one (ds_if (dt_not (dt_of (pt_val (de_var 0)) fun _ _ _ q => q))
    (ds_one (ds_raise c.calm c.tk (h_BadText.to c.bx) rfl))
    ds_nil))
abbrev s_squares_of : Stmt := (top 38)
theorem sc_squares_of : FnScope ["stand", "rows", "found", "row", "column"] ["stand"] (defScope s_squares_of) := ⟨rfl, rfl, rfl, by decide +kernel, rfl, by decide +kernel, by decide +kernel⟩
def g_squares_of : DS :=
    (sSeq (sSet 1 (d2 (dVar 0) (dC (.int 0)) kIx))
    (sSeq (sSet 2 (cLst aNil))
    (sSeq (sFor (iRange (aCons (dA (aCons (dVar 1) aNil) kLen) aNil)) (nName 3)
    (sExpr (dMt isLst kExt (dVar 2) (aCons (dLc (iRange (aCons (dA (aCons (d2 (dVar 1) (dC (.int 0)) kIx) aNil) kLen) aNil)) (fName 4) (tB (dCall F_is_dark (aCons (dVar 3) (aCons (dVar 4) aNil)))) (dTup (aCons (dVar 3) (aCons (dVar 4) aNil))) [4]) aNil))))
    (sRet (dVar 2)))))
def F_squares_of : List D → Ret := pureOf 5 g_squares_of
theorem b_squares_of (z_len : mg "len" = none) (z_range : mg "range" = none) (h_is_dark : FnB P w K mg base 1 "is_dark" ["row", "column"] (spP (mkB P w K mg clA fN exA) 2 F_is_dark)) : Body P w K mg base (mkB P w K mg clA fN exA) ["stand", "rows", "found", "row", "column"] "squares_of" (defScope s_squares_of) f (defBody s_squares_of) 1 g_squares_of := fun cdv A outer s H E hr => by
  have c := ctx_of (B := mkB P w K mg clA fN exA) (P := P) (w := w) (K := K) (mg := mg) (base := base) (outer := outer) (H := H) (E := E) ⟨rfl, rfl, rfl, rfl⟩ sc_squares_of.nd hr
  exact (ds_cons (ds_set 1 c.nd (de2 (pe_ix (ix_C c.bx c.hu) (de_var 0) de_int (fun _ _ => rfl)) (p_ixC c.bx)))
    (ds_cons (ds_set 2 c.nd (de_lstC a_nil))
    (ds_cons (ds_for c.po c.calm (di_range1 rfl z_range (a_cons (de_cB call_lenA (p_len c.bx) rfl z_len (by decide +kernel) (a_cons (de_var 1) a_nil)) a_nil) (len_cons len_nil)) (dg_name 3 c.nd)
    (ds_one (ds_expr (de_mt PySem.F.plainAttrs_list PySem.F.slot_list_extend PySem.F.type_list_extend mt_extR tp_lst p_ext (de_var 2) (a_cons (de_lc fin_D [("column", 4)] c.calm c.nd (di_range1 rfl z_range (a_cons (de_cB call_lenA (p_len c.bx) rfl z_len (by decide +kernel) (a_cons (de2 (pe_ix (ix_C c.bx c.hu) (de_var 1) de_int (fun _ _ => rfl)) (p_ixC c.bx)) a_nil)) a_nil) (len_cons len_nil)) (blkOk_by (N := ["stand", "rows", "found", "row", "column"]) (sc := defScope s_squares_of) (by decide +kernel)) (fun _ _ _ _ _ => (df_name 4 c.blk.nd)) (fun _ _ _ _ _ => (dts_one (dt_of (pt_val (cb_call c.blk h_is_dark (by omega) (a_cons (de_var 3) (a_cons (de_var 4) a_nil)) (len_cons (len_cons len_nil)))) fun _ _ _ q => q))) (fun _ _ _ _ _ => (de_tup (a_cons (de_var 3) (a_cons (de_var 4) a_nil))))) a_nil)))))
    (ds_one (ds_ret (de_var 2))))))
abbrev s_full_text : Stmt := (top 39)
theorem sc_full_text : FnScope ["squares", "move", "sign", "square"] ["squares", "move", "sign"] (defScope s_full_text) := ⟨rfl, rfl, rfl, by decide +kernel, rfl, by decide +kernel, by decide +kernel⟩
def g_full_text : DS :=
    (sRet (dMt isStr (rdM1 joinD) (dVar 2) (aCons (dLc (iSeq (dVar 1)) (fName 3) tYesD (dA (aCons (d2 (dMt isLst kIndex (dVar 0) (aCons (dVar 3) aNil)) (dC (.int 1)) (rd2 addD)) aNil) (rdA1 strID)) [3]) aNil)))
def F_full_text : List D → Ret := pureOf 4 g_full_text
theorem b_full_text (z_str : mg "str" = none) : Body P w K mg base (mkB P w K mg clA fN exA) ["squares", "move", "sign", "square"] "full_text" (defScope s_full_text) f (defBody s_full_text) 0 g_full_text := fun cdv A outer s H E hr => by
  have c := ctx_of (B := mkB P w K mg clA fN exA) (P := P) (w := w) (K := K) (mg := mg) (base := base) (outer := outer) (H := H) (E := E) ⟨rfl, rfl, rfl, rfl⟩ sc_full_text.nd hr
  exact (ds_one (ds_ret (de_mt PySem.F.plainAttrs_str PySem.F.slot_str_join PySem.F.type_str_join mt_join tp_str (p_join c.bx) (de_var 2) (a_cons (de_lc fin_D [("square", 3)] c.calm c.nd (di_seq c.bx (de_var 1)) (blkOk_by (N := ["squares", "move", "sign", "square"]) (sc := defScope s_full_text) (by decide +kernel)) (fun _ _ _ _ _ => (df_name 3 c.blk.nd)) (fun _ _ _ _ _ => dts_nil) (fun _ _ _ _ _ => (de_cT call_str_int p_strI rfl z_str (by decide +kernel) (a_cons (de2 (pe_op op_addAll (de_mt PySem.F.plainAttrs_list PySem.F.slot_list_index PySem.F.type_list_index (mt_indexD c.blk.hu65) tp_lst (p_index c.blk.bx) (de_var 0) (a_cons (de_var 3) a_nil)) de_int) (p_add c.blk.bx.K)) a_nil)))) a_nil))))
abbrev s_sign_of : Stmt := (top 40)
theorem sc_sign_of : FnScope ["prey"] ["prey"] (defScope s_sign_of) := ⟨rfl, rfl, rfl, by decide +kernel, rfl, by decide +kernel, by decide +kernel⟩
def g_sign_of : DS :=
    (sRet (dIf (tB (d2 (dVar 0) (dLst aNil) (rd2 neD))) (dC (.str [120])) (dC (.str [45]))))
def F_sign_of : List D → Ret := pureOf 1 g_sign_of
theorem b_sign_of  : Body P w K mg base (mkB P w K mg clA fN exA) ["prey"] "sign_of" (defScope s_sign_of) f (defBody s_sign_of) 0 g_sign_of := fun cdv A outer s H E hr => by
  have c := ctx_of (B := mkB P w K mg clA fN exA) (P := P) (w := w) (K := K) (mg := mg) (base := base) (outer := outer) (H := H) (E := E) ⟨rfl, rfl, rfl, rfl⟩ sc_sign_of.nd hr
  exact (ds_one (ds_ret (de_if (dt2 (pt_cmpR (op_neD c.hu64) (de_var 0) (de_lst a_nil) (nomark _)) (p_ne c.bx)) (de_str [120]) (de_str [45]))))
abbrev s_written_move : Stmt := (top 41)
theorem sc_written_move : FnScope ["stand", "move", "prey", "squares", "ways", "alike", "other"] ["stand", "move"] (defScope s_written_move) := ⟨rfl, rfl, rfl, by decide +kernel, rfl, by decide +kernel, by decide +kernel⟩
def g_written_move : DS :=
    (sSeq (sSet 2 (dCall F_need_move (aCons (dVar 0) (aCons (dVar 1) aNil))))
    (sSeq (sSet 3 (dCall F_squares_of (aCons (dVar 0) aNil)))
    (sSeq (sSet 4 (dCall F_ways_of (aCons (dVar 0) aNil)))
    (sSeq (sSet 5 (dLc (iDict (dVar 4)) (fName 6) (tB (d2 (dTup (aCons (d2 (dVar 6) (dC (.int 0)) kIx) (aCons (d2 (dVar 6) (d1 (dC (.int 1)) (rd1 negD)) kIx) aNil))) (dTup (aCons (d2 (dVar 1) (dC (.int 0)) kIx) (aCons (d2 (dVar 1) (d1 (dC (.int 1)) (rd1 negD)) kIx) aNil))) (rd2 eqD))) (dVar 6) [6]))
    (sSeq (sIf (tB (dA (aCons (dLc (iSeq (dVar 5)) (fName 6) tYesD (d2 (dCall F_moved (aCons (dVar 0) (aCons (dVar 6) (aCons (d2 (dVar 4) (dVar 6) kIx) aNil)))) (dCall F_moved (aCons (dVar 0) (aCons (dVar 1) (aCons (dVar 2) aNil)))) (rd2 eqD)) [6]) aNil) (rdA1 allDD)))
    (sRet (dCall F_full_text (aCons (dVar 3) (aCons (dTup (aCons (d2 (dVar 1) (dC (.int 0)) kIx) (aCons (d2 (dVar 1) (d1 (dC (.int 1)) (rd1 negD)) kIx) aNil))) (aCons (dCall F_sign_of (aCons (dVar 2) aNil)) aNil)))))
    sNil)
    (sRet (dCall F_full_text (aCons (dVar 3) (aCons (dVar 1) (aCons (dCall F_sign_of (aCons (dVar 2) aNil)) aNil))))))))))
def F_written_move : List D → Ret := pureOf 7 g_written_move
theorem b_written_move (z_all : mg "all" = none) (h_full_text : FnB P w K mg base 1 "full_text" ["squares", "move", "sign"] (spP (mkB P w K mg clA fN exA) 3 F_full_text)) (h_moved : FnB P w K mg base 2 "moved" ["stand", "move", "prey"] (spP (mkB P w K mg clA fN exA) 3 F_moved)) (h_need_move : FnB P w K mg base 18 "need_move" ["stand", "move"] (spP (mkB P w K mg clA fN exA) 2 F_need_move)) (h_sign_of : FnB P w K mg base 1 "sign_of" ["prey"] (spP (mkB P w K mg clA fN exA) 1 F_sign_of)) (h_squares_of : FnB P w K mg base 2 "squares_of" ["stand"] (spP (mkB P w K mg clA fN exA) 1 F_squares_of)) (h_ways_of : FnB P w K mg base 17 "ways_of" ["stand"] (spP (mkB P w K mg clA fN exA) 1 F_ways_of)) : Body P w K mg base (mkB P w K mg clA fN exA) ["stand", "move", "prey", "squares", "ways", "alike", "other"] "written_move" (defScope s_written_move) f (defBody s_written_move) 18 g_written_move := fun cdv A outer s H E hr => by
  have c := ctx_of (B := mkB P w K mg clA fN exA) (P := P) (w := w) (K := K) (mg := mg) (base := base) (outer := outer) (H := H) (E := E) ⟨rfl, rfl, rfl, rfl⟩ sc_written_move.nd hr
  exact (ds_cons (ds_set 2 c.nd (cb_call c h_need_move (by omega) (a_cons (de_var 0) (a_cons (de_var 1) a_nil)) (len_cons (len_cons len_nil))))
    (ds_cons (ds_set 3 c.nd (cb_call c h_squares_of (by omega) (a_cons (de_var 0) a_nil) (len_cons len_nil)))
    (ds_cons (ds_set 4 c.nd (cb_call c h_ways_of (by omega) (a_cons (de_var 0) a_nil) (len_cons len_nil)))
    (ds_cons (ds_setLc 5 fin_D [("other", 6)] c.calm c.nd (di_dict c.bx (de_var 4)) (blkOk_by (N := ["stand", "move", "prey", "squares", "ways", "alike", "other"]) (sc := defScope s_written_move) (by decide +kernel)) (fun _ _ _ _ _ => (df_name 6 c.blk.nd)) (fun _ _ _ _ _ => (dts_one (dt2 (pt_cmpR (op_eqD c.blk.hu64) (de_tup (a_cons (de2 (pe_ix (ix_C c.blk.bx c.blk.hu) (de_var 6) de_int (fun _ _ => rfl)) (p_ixC c.blk.bx)) (a_cons (de2 (pe_ix (ix_C c.blk.bx c.blk.hu) (de_var 6) (de1 (pe_un un_neg de_int) p_neg) (fun _ _ => rfl)) (p_ixC c.blk.bx)) a_nil))) (de_tup (a_cons (de2 (pe_ix (ix_C c.blk.bx c.blk.hu) (de_var 1) de_int (fun _ _ => rfl)) (p_ixC c.blk.bx)) (a_cons (de2 (pe_ix (ix_C c.blk.bx c.blk.hu) (de_var 1) (de1 (pe_un un_neg de_int) p_neg) (fun _ _ => rfl)) (p_ixC c.blk.bx)) a_nil))) (nomark _)) (p_eq c.blk.bx)))) (fun _ _ _ _ _ => (de_var 6)) (sw_true rfl rfl rfl (by decide +kernel)))
    (ds_cons (ds_if (dt_of (pt_val (de_cB (cr_all c.calm) p_all rfl z_all (by decide +kernel) (a_cons (de_lc fin_D [("other", 6)] c.calm c.nd (di_seq c.bx (de_var 5)) (blkOk_by (N := ["stand", "move", "prey", "squares", "ways", "alike", "other"]) (sc := defScope s_written_move) (by decide +kernel)) (fun _ _ _ _ _ => (df_name 6 c.blk.nd)) (fun _ _ _ _ _ => dts_nil) (fun _ _ _ _ _ => (de2 (pe_cmpR (op_eqD c.blk.hu64) (cb_call c.blk h_moved (by omega) (a_cons (de_var 0) (a_cons (de_var 6) (a_cons (de2 (pe_ix (ix_C c.blk.bx c.blk.hu) (de_var 4) (de_var 6) (fun _ _ => rfl)) (p_ixC c.blk.bx)) a_nil))) (len_cons (len_cons (len_cons len_nil)))) (cb_call c.blk h_moved (by omega) (a_cons (de_var 0) (a_cons (de_var 1) (a_cons (de_var 2) a_nil))) (len_cons (len_cons (len_cons len_nil)))) (nomark _)) (p_eq c.blk.bx)))) a_nil))) fun _ _ _ q => q)
    (ds_one (ds_ret (cb_call c h_full_text (by omega) (a_cons (de_var 3) (a_cons (de_tup (a_cons (de2 (pe_ix (ix_C c.bx c.hu) (de_var 1) de_int (fun _ _ => rfl)) (p_ixC c.bx)) (a_cons (de2 (pe_ix (ix_C c.bx c.hu) (de_var 1) (de1 (pe_un un_neg de_int) p_neg) (fun _ _ => rfl)) (p_ixC c.bx)) a_nil))) (a_cons (cb_call c h_sign_of (by omega) (a_cons (de_var 2) a_nil) (len_cons len_nil)) a_nil))) (len_cons (len_cons (len_cons len_nil))))))
    ds_nil)
    (ds_one (ds_ret (cb_call c h_full_text (by omega) (a_cons (de_var 3) (a_cons (de_var 1) (a_cons (cb_call c h_sign_of (by omega) (a_cons (de_var 2) a_nil) (len_cons len_nil)) a_nil))) (len_cons (len_cons (len_cons len_nil)))))))))))
abbrev s_number_of : Stmt := (top 42)
theorem sc_number_of : FnScope ["text", "most", "sign"] ["text", "most"] (defScope s_number_of) := ⟨rfl, rfl, rfl, by decide +kernel, rfl, by decide +kernel, by decide +kernel⟩
def g_number_of : DS :=
    (sSeq (sExpr (dCall F_need_notes (aCons (dAnd (dChain (dC (.int 1)) (dA (aCons (dVar 0) aNil) kLen) (dC (.int 2)) (rd2 dLe) (rd2 dLe)) (dAnd (dA (aCons (dLc (iSeq (dVar 0)) (fName 2) tYesD (d2 (dVar 2) (dC c_FIGURES_notes) (kIn false)) [2]) aNil) (rdA1 allDD)) (dAnd (d2 (d2 (dVar 0) (dC (.int 0)) kIx) (dC (.str [48])) (rd2 neD)) (d2 (dA (aCons (dVar 0) aNil) (rdA1 intSD)) (dVar 1) (rd2 dLe))))) aNil)))
    (sRet (dA (aCons (dVar 0) aNil) (rdA1 intSD))))
def F_number_of : List D → Ret := pureOf 3 g_number_of
theorem b_number_of (z_all : mg "all" = none) (z_int : mg "int" = none) (z_len : mg "len" = none) (h_FIGURES_notes : GC (mkB P w K mg clA fN exA) "FIGURES_notes" c_FIGURES_notes) (h_need_notes : FnB P w K mg base 1 "need_notes" ["good"] (spP (mkB P w K mg clA fN exA) 1 F_need_notes)) : Body P w K mg base (mkB P w K mg clA fN exA) ["text", "most", "sign"] "number_of" (defScope s_number_of) f (defBody s_number_of) 1 g_number_of := fun cdv A outer s H E hr => by
  have c := ctx_of (B := mkB P w K mg clA fN exA) (P := P) (w := w) (K := K) (mg := mg) (base := base) (outer := outer) (H := H) (E := E) ⟨rfl, rfl, rfl, rfl⟩ sc_number_of.nd hr
  exact (ds_cons (ds_expr (cb_call c h_need_notes (by omega) (a_cons (de_and (de_chain op_le op_le de_int (de_cB call_lenA (p_len c.bx) rfl z_len (by decide +kernel) (a_cons (de_var 0) a_nil)) de_int p_cmp p_cmp) (de_and (de_cB (cr_all c.calm) p_all rfl z_all (by decide +kernel) (a_cons (de_lc fin_D [("sign", 2)] c.calm c.nd (di_seq c.bx (de_var 0)) (blkOk_by (N := ["text", "most", "sign"]) (sc := defScope s_number_of) (by decide +kernel)) (fun _ _ _ _ _ => (df_name 2 c.blk.nd)) (fun _ _ _ _ _ => dts_nil) (fun _ _ _ _ _ => (de2 (pe_cmpR (op_inC c.blk.bx c.blk.hu) (de_var 2) (de_gc c.blk.bx h_FIGURES_notes) rfl) (p_inC c.blk.bx false)))) a_nil)) (de_and (de2 (pe_cmpR (op_neD c.hu64) (de2 (pe_ix (ix_C c.bx c.hu) (de_var 0) de_int (fun _ _ => rfl)) (p_ixC c.bx)) (de_str [48]) (nomark _)) (p_ne c.bx)) (de_one (de2 (pe_cmpR op_le (de_cT call_int_str p_intS rfl z_int (by decide +kernel) (a_cons (de_var 0) a_nil)) (de_var 1) (nomark _)) p_cmp))))) a_nil) (len_cons len_nil)))
    (ds_one (ds_ret (de_cT call_int_str p_intS rfl z_int (by decide +kernel) (a_cons (de_var 0) a_nil)))))
abbrev s_read_move : Stmt := (top 43)
theorem sc_read_move : FnScope ["stand", "text", "squares", "ways", "sign", "told", "alike", "one", "move"] ["stand", "text"] (defScope s_read_move) := ⟨rfl, rfl, rfl, by decide +kernel, rfl, by decide +kernel, by decide +kernel⟩
def g_read_move : DS :=
    (sSeq (sExpr (dCall F_need_stand (aCons (dVar 0) aNil)))
    (sSeq (sSet 2 (dCall F_squares_of (aCons (dVar 0) aNil)))
    (sSeq (sSet 3 (dCall F_ways_of (aCons (dVar 0) aNil)))
    (sSeq (sSet 4 (dIf (tB (d2 (dC (.str [120])) (dVar 1) (kIn false))) (dC (.str [120])) (dC (.str [45]))))
    (sSeq (sSet 5 (dA (aCons (gLcX finD (iSeq (dMt isStr (rdM1 splitD) (dVar 1) (aCons (dVar 4) aNil))) (fName 7) tYesD (d2 (dVar 2) (d2 (dCall F_number_of (aCons (dVar 7) (aCons (dA (aCons (dVar 2) aNil) kLen) aNil))) (dC (.int 1)) (rd2 subD)) kIx) [7]) aNil) (rdA1 tupOfD)))
    (sSeq (sExpr (dCall F_need_notes (aCons (d2 (dA (aCons (dVar 5) aNil) kLen) (dC (.int 1)) (rd2 dGt)) aNil)))
    (sSeq (sIf (Dn.tAnd (tB (d2 (dVar 5) (dVar 3) (kIn false))) (tB (d2 (dCall F_sign_of (aCons (d2 (dVar 3) (dVar 5) kIx) aNil)) (dVar 4) (rd2 eqD))))
    (sRet (dVar 5))
    sNil)
    (sSeq (sSet 6 (gLcX finD (iSeq (dA (aCons (dVar 3) aNil) kSorted)) (fName 8) (Dn.tAnd (tB (d2 (dTup (aCons (d2 (dVar 8) (dC (.int 0)) kIx) (aCons (d2 (dVar 8) (d1 (dC (.int 1)) (rd1 negD)) kIx) aNil))) (dVar 5) (rd2 eqD))) (tB (d2 (dCall F_sign_of (aCons (d2 (dVar 3) (dVar 8) kIx) aNil)) (dVar 4) (rd2 eqD)))) (dVar 8) [8]))
    (sSeq (sExpr (dCall F_need_notes (aCons (d2 (dVar 6) (dLst aNil) (rd2 neD)) aNil)))
    (sSeq (sExpr (dCall F_need_notes (aCons (dA (aCons (gLcX finD (iSeq (dVar 6)) (fName 8) tYesD (d2 (dCall F_moved (aCons (dVar 0) (aCons (dVar 8) (aCons (d2 (dVar 3) (dVar 8) kIx) aNil)))) (dCall F_moved (aCons (dVar 0) (aCons (d2 (dVar 6) (dC (.int 0)) kIx) (aCons (d2 (dVar 3) (d2 (dVar 6) (dC (.int 0)) kIx) kIx) aNil)))) (rd2 eqD)) [8]) aNil) (rdA1 allDD)) aNil)))
    (sRet (d2 (dVar 6) (dC (.int 0)) kIx))))))))))))
def F_read_move : List D → Ret := pureOf 9 g_read_move
theorem b_read_move (z_all : mg "all" = none) (z_len : mg "len" = none) (z_sorted : mg "sorted" = none) (z_tuple : mg "tuple" = none) (h_moved : FnB P w K mg base 2 "moved" ["stand", "move", "prey"] (spP (mkB P w K mg clA fN exA) 3 F_moved)) (h_need_notes : FnB P w K mg base 1 "need_notes" ["good"] (spP (mkB P w K mg clA fN exA) 1 F_need_notes)) (h_need_stand : FnB P w K mg base 3 "need_stand" ["stand"] (spP (mkB P w K mg clA fN exA) 1 F_need_stand)) (h_number_of : FnB P w K mg base 2 "number_of" ["text", "most"] (spP (mkB P w K mg clA fN exA) 2 F_number_of)) (h_sign_of : FnB P w K mg base 1 "sign_of" ["prey"] (spP (mkB P w K mg clA fN exA) 1 F_sign_of)) (h_squares_of : FnB P w K mg base 2 "squares_of" ["stand"] (spP (mkB P w K mg clA fN exA) 1 F_squares_of)) (h_ways_of : FnB P w K mg base 17 "ways_of" ["stand"] (spP (mkB P w K mg clA fN exA) 1 F_ways_of)) : Body P w K mg base (mkB P w K mg clA fN exA) ["stand", "text", "squares", "ways", "sign", "told", "alike", "one", "move"] "read_move" (defScope s_read_move) f (defBody s_read_move) 17 g_read_move := fun cdv A outer s H E hr => by
  have c := ctx_of (B := mkB P w K mg clA fN exA) (P := P) (w := w) (K := K) (mg := mg) (base := base) (outer := outer) (H := H) (E := E) ⟨rfl, rfl, rfl, rfl⟩ sc_read_move.nd hr
  exact (ds_cons (ds_expr (cb_call c h_need_stand (by omega) (a_cons (de_var 0) a_nil) (len_cons len_nil)))
    (ds_cons (ds_set 2 c.nd (cb_call c h_squares_of (by omega) (a_cons (de_var 0) a_nil) (len_cons len_nil)))
    (ds_cons (ds_set 3 c.nd (cb_call c h_ways_of (by omega) (a_cons (de_var 0) a_nil) (len_cons len_nil)))
    (ds_cons (ds_set 4 c.nd (de_if (dt2 (pt_cmpR (op_inC c.bx c.hu) (de_str [120]) (de_var 1) rfl) (p_inC c.bx false)) (de_str [120]) (de_str [45])))
    (ds_cons (ds_set 5 c.nd (de_cT call_tuple_of (p_tupOf c.bx) rfl z_tuple (by decide +kernel) (a_cons (de_lcX fin_D [("one", 7)] c (di_seq c.bx (de_mt PySem.F.plainAttrs_str PySem.F.slot_str_split PySem.F.type_str_split mt_split tp_str p_split (de_var 1) (a_cons (de_var 4) a_nil))) (blkOk_by (N := ["stand", "text", "squares", "ways", "sign", "told", "alike", "one", "move"]) (sc := defScope s_read_move) (by decide +kernel)) (fun _ _ _ _ _ => (df_name 7 c.blk.nd)) (fun _ _ _ _ _ => dts_nil) (fun _ _ _ _ _ _ _ c => (de2 (pe_ix (ix_C c.bx c.hu) (de_var 2) (de2 (pe_op op_sub (cb_callI c h_number_of (by omega) (a_cons (de_var 7) (a_cons (de_cB call_lenA (p_len c.bx) rfl z_len (by decide +kernel) (a_cons (de_var 2) a_nil)) a_nil)) (len_cons (len_cons len_nil))) de_int) p_sub) (fun _ _ => rfl)) (p_ixC c.bx)))) a_nil)))
    (ds_cons (ds_expr (cb_call c h_need_notes (by omega) (a_cons (de2 (pe_cmpR op_gt (de_cB call_lenA (p_len c.bx) rfl z_len (by decide +kernel) (a_cons (de_var 5) a_nil)) de_int (nomark _)) p_cmp) a_nil) (len_cons len_nil)))
    (ds_cons (ds_if (PW.pt (dw_and (dt2 (pt_cmpR (op_inC c.bx c.hu) (de_var 5) (de_var 3) rfl) (p_inC c.bx false)) (dw_and1 (dt2 (pt_cmpR (op_eqD c.hu64) (cb_call c h_sign_of (by omega) (a_cons (de2 (pe_ix (ix_C c.bx c.hu) (de_var 3) (de_var 5) (fun _ _ => rfl)) (p_ixC c.bx)) a_nil) (len_cons len_nil)) (de_var 4) (nomark _)) (p_eq c.bx)))))
    (ds_one (ds_ret (de_var 5)))
    ds_nil)
    (ds_cons (ds_set 6 c.nd (de_lcX fin_D [("move", 8)] c (di_seq c.bx (de_cB (call_sortA c.calm c.bx c.hu) (p_sorted c.bx) rfl z_sorted (by decide +kernel) (a_cons (de_var 3) a_nil))) (blkOk_by (N := ["stand", "text", "squares", "ways", "sign", "told", "alike", "one", "move"]) (sc := defScope s_read_move) (by decide +kernel)) (fun _ _ _ _ _ => (df_name 8 c.blk.nd)) (fun _ _ _ _ _ => (dts_one (PW.pt (dw_and (dt2 (pt_cmpR (op_eqD c.blk.hu64) (de_tup (a_cons (de2 (pe_ix (ix_C c.blk.bx c.blk.hu) (de_var 8) de_int (fun _ _ => rfl)) (p_ixC c.blk.bx)) (a_cons (de2 (pe_ix (ix_C c.blk.bx c.blk.hu) (de_var 8) (de1 (pe_un un_neg de_int) p_neg) (fun _ _ => rfl)) (p_ixC c.blk.bx)) a_nil))) (de_var 5) (nomark _)) (p_eq c.blk.bx)) (dw_and1 (dt2 (pt_cmpR (op_eqD c.blk.hu64) (cb_call c.blk h_sign_of (by omega) (a_cons (de2 (pe_ix (ix_C c.blk.bx c.blk.hu) (de_var 3) (de_var 8) (fun _ _ => rfl)) (p_ixC c.blk.bx)) a_nil) (len_cons len_nil)) (de_var 4) (nomark _)) (p_eq c.blk.bx))))))) (fun _ _ _ _ _ _ _ c => (de_var 8))))
    (ds_cons (ds_expr (cb_call c h_need_notes (by omega) (a_cons (de2 (pe_cmpR (op_neD c.hu64) (de_var 6) (de_lst a_nil) (nomark _)) (p_ne c.bx)) a_nil) (len_cons len_nil)))
    (ds_cons (ds_expr (cb_call c h_need_notes (by omega) (a_cons (de_cB (cr_all c.calm) p_all rfl z_all (by decide +kernel) (a_cons (de_lcX fin_D [("move", 8)] c (di_seq c.bx (de_var 6)) (blkOk_by (N := ["stand", "text", "squares", "ways", "sign", "told", "alike", "one", "move"]) (sc := defScope s_read_move) (by decide +kernel)) (fun _ _ _ _ _ => (df_name 8 c.blk.nd)) (fun _ _ _ _ _ => dts_nil) (fun _ _ _ _ _ _ _ c => (de2 (pe_cmpR (op_eqD c.hu64) (cb_callI c h_moved (by omega) (a_cons (de_var 0) (a_cons (de_var 8) (a_cons (de2 (pe_ix (ix_C c.bx c.hu) (de_var 3) (de_var 8) (fun _ _ => rfl)) (p_ixC c.bx)) a_nil))) (len_cons (len_cons (len_cons len_nil)))) (cb_callI c h_moved (by omega) (a_cons (de_var 0) (a_cons (de2 (pe_ix (ix_C c.bx c.hu) (de_var 6) de_int (fun _ _ => rfl)) (p_ixC c.bx)) (a_cons (de2 (pe_ix (ix_C c.bx c.hu) (de_var 3) (de2 (pe_ix (ix_C c.bx c.hu) (de_var 6) de_int (fun _ _ => rfl)) (p_ixC c.bx)) (fun _ _ => rfl)) (p_ixC c.bx)) a_nil))) (len_cons (len_cons (len_cons len_nil)))) (nomark _)) (p_eq c.bx)))) a_nil)) a_nil) (len_cons len_nil)))
    (ds_one (ds_ret (de2 (pe_ix (ix_C c.bx c.hu) (de_var 6) de_int (fun _ _ => rfl)) (p_ixC c.bx))))))))))))))
abbrev s_is_ticks : Stmt := (top 50)
theorem sc_is_ticks : FnScope ["thing", "least"] ["thing", "least"] (defScope s_is_ticks) := ⟨rfl, rfl, rfl, by decide +kernel, rfl, by decide +kernel, by decide +kernel⟩
def g_is_ticks : DS :=
    (sRet (dAnd (d1 (dVar 0) (kIs "int")) (dAnd (dNot (d1 (dVar 0) (kIs "bool"))) (dChain (dVar 1) (dVar 0) (dC c_MOST_TICKS) (rd2 dLe) (rd2 dLe)))))
def F_is_ticks : List D → Ret := pureOf 2 g_is_ticks
theorem b_is_ticks (z_bool : mg "bool" = none) (z_int : mg "int" = none) (z_isinstance : mg "isinstance" = none) (h_MOST_TICKS : GC (mkB P w K mg clA fN exA) "MOST_TICKS" c_MOST_TICKS) : Body P w K mg base (mkB P w K mg clA fN exA) ["thing", "least"] "is_ticks" (defScope s_is_ticks) f (defBody s_is_ticks) 0 g_is_ticks := fun cdv A outer s H E hr => by
  have c := ctx_of (B := mkB P w K mg clA fN exA) (P := P) (w := w) (K := K) (mg := mg) (base := base) (outer := outer) (H := H) (E := E) ⟨rfl, rfl, rfl, rfl⟩ sc_is_ticks.nd hr
  exact (ds_one (ds_ret (de_and (de_isi "int" c.bx rfl z_isinstance (by decide +kernel) rfl z_int (by decide +kernel) (by decide) (de_var 0)) (de_and (de_not (de_isi "bool" c.bx rfl z_isinstance (by decide +kernel) rfl z_bool (by decide +kernel) (by decide) (de_var 0))) (de_one (de_chain op_le op_le (de_var 1) (de_var 0) (de_gc c.bx h_MOST_TICKS) p_cmp p_cmp))))))
abbrev s_Game_moves : Stmt := (inClass (top 46) 5)
theorem no_Game_moves : ("moves" : Str) ∉ fN 1 := by decide +kernel
theorem sc_Game_moves : FnScope ["self"] ["self"] (defScope s_Game_moves) := ⟨rfl, rfl, rfl, by decide +kernel, rfl, by decide +kernel, by decide +kernel⟩
def g_Game_moves : DS :=
    (sRet (dA (aCons (dFld 1 2 (dVar 0)) aNil) (rdA1 lstOfD)))
def M_Game_moves : List Val → Sto → Out Val := methT 1 g_Game_moves
theorem b_Game_moves (z_list : mg "list" = none) (C_Game : ClB (mkB P w K mg clA fN exA) 1 4) : Body P w K mg base (mkB P w K mg clA fN exA) ["self"] "Game.moves" (defScope s_Game_moves) f (defBody s_Game_moves) 0 g_Game_moves := fun cdv A outer s H E hr => by
  have c := ctx_of (B := mkB P w K mg clA fN exA) (P := P) (w := w) (K := K) (mg := mg) (base := base) (outer := outer) (H := H) (E := E) ⟨rfl, rfl, rfl, rfl⟩ sc_Game_moves.nd hr
  exact (ds_one (ds_ret (de_cT call_list_of (p_lstOf c.bx) rfl z_list (by decide +kernel) (a_cons (cb_fld c C_Game (i := 2) rfl (de_var 0)) a_nil))))
abbrev s_Match_moves : Stmt := (inClass (top 51) 9)
theorem no_Match_moves : ("moves" : Str) ∉ fN 2 := by decide +kernel
theorem sc_Match_moves : FnScope ["self"] ["self"] (defScope s_Match_moves) := ⟨rfl, rfl, rfl, by decide +kernel, rfl, by decide +kernel, by decide +kernel⟩
def g_Match_moves : DS :=
    (sRet (dA (aCons (dMeth M_Game_moves 1 (dFld 2 0 (dVar 0)) aNil) (aCons (dFld 2 2 (dVar 0)) aNil)) kZipL))
def M_Match_moves : List Val → Sto → Out Val := methT 1 g_Match_moves
theorem b_Match_moves (z_list : mg "list" = none) (z_zip : mg "zip" = none) (C_Game : ClB (mkB P w K mg clA fN exA) 1 4) (C_Match : ClB (mkB P w K mg clA fN exA) 2 4) (h_Game_moves : MtB P w K mg base 1 (clA 1) "moves" ["self"] (spM (mkB P w K mg clA fN exA) 1 M_Game_moves)) : Body P w K mg base (mkB P w K mg clA fN exA) ["self"] "Match.moves" (defScope s_Match_moves) f (defBody s_Match_moves) 1 g_Match_moves := fun cdv A outer s H E hr => by
  have c := ctx_of (B := mkB P w K mg clA fN exA) (P := P) (w := w) (K := K) (mg := mg) (base := base) (outer := outer) (H := H) (E := E) ⟨rfl, rfl, rfl, rfl⟩ sc_Match_moves.nd hr
  exact (ds_one (ds_ret (de_listZip c.calm rfl z_list rfl z_zip (a_cons (cb_meth0 c C_Game h_Game_moves (by omega) (cb_fld c C_Match (i := 0) rfl (de_var 0)) no_Game_moves) (a_cons (cb_fld c C_Match (i := 2) rfl (de_var 0)) a_nil)))))
abbrev s_written_match : Stmt := (top 52)
theorem sc_written_match : FnScope ["match", "words", "stand", "move", "own"] ["match"] (defScope s_written_match) := ⟨rfl, rfl, rfl, by decide +kernel, rfl, by decide +kernel, by decide +kernel⟩
def g_written_match : DS :=
    (sSeq (sSet 1 (dLc (iZipV (aCons (dFld 1 1 (dFld 2 0 (dVar 0))) (aCons (dMeth M_Match_moves 2 (dVar 0) aNil) aNil))) (fTup 2 (fCons (fName 2) (fCons (fTup 2 (fCons (fName 3) (fCons (fName 4) fNil))) fNil))) tYesD (d2 (d2 (dCall F_written_move (aCons (dVar 2) (aCons (dVar 3) aNil))) (dC (.str [58])) (rd2 addD)) (dA (aCons (dVar 4) aNil) (rdA1 strID)) (rd2 addD)) [2, 3, 4]))
    (sRet (dMt isStr (rdM1 joinD) (dC (.str [32])) (aCons (d2 (dVar 1) (dIf (tB (d2 (dFld 2 3 (dVar 0)) (dC (.str [])) (rd2 neD))) (dLst (aCons (d1 (dFld 2 3 (dVar 0)) (kRep 32 61)) aNil)) (dLst aNil)) (rd2 addD)) aNil))))
def F_written_match : List D → Ret := pureOf 5 g_written_match
def M_written_match : List Val → Sto → Out Val := methT 5 g_written_match
theorem b_written_match (z_str : mg "str" = none) (z_zip : mg "zip" = none) (C_Game : ClB (mkB P w K mg clA fN exA) 1 4) (C_Match : ClB (mkB P w K mg clA fN exA) 2 4) (h_written_move : FnB P w K mg base 19 "written_move" ["stand", "move"] (spP (mkB P w K mg clA fN exA) 2 F_written_move)) (h_Match_moves : MtB P w K mg base 2 (clA 2) "moves" ["self"] (spM (mkB P w K mg clA fN exA) 1 M_Match_moves)) : Body P w K mg base (mkB P w K mg clA fN exA) ["match", "words", "stand", "move", "own"] "written_match" (defScope s_written_match) f (defBody s_written_match) 19 g_written_match := fun cdv A outer s H E hr => by
  have c := ctx_of (B := mkB P w K mg clA fN exA) (P := P) (w := w) (K := K) (mg := mg) (base := base) (outer := outer) (H := H) (E := E) ⟨rfl, rfl, rfl, rfl⟩ sc_written_match.nd hr
  exact (ds_cons (ds_setLc 1 fin_D [("stand", 2), ("move", 3), ("own", 4)] c.calm c.nd (di_zip c.bx rfl z_zip (a_cons (cb_fld c C_Game (i := 1) rfl (cb_fld c C_Match (i := 0) rfl (de_var 0))) (a_cons (cb_meth0 c C_Match h_Match_moves (by omega) (de_var 0) no_Match_moves) a_nil))) (blkOk_by (N := ["match", "words", "stand", "move", "own"]) (sc := defScope s_written_match) (by decide +kernel)) (fun _ _ _ _ _ => (df_tup c.blk.bx c.blk.calm (dfs_cons (df_name 2 c.blk.nd) (dfs_cons (df_tup c.blk.bx c.blk.calm (dfs_cons (df_name 3 c.blk.nd) (dfs_cons (df_name 4 c.blk.nd) dfs_nil))) dfs_nil)))) (fun _ _ _ _ _ => dts_nil) (fun _ _ _ _ _ => (de2 (pe_op op_addAll (de2 (pe_op op_addAll (cb_call c.blk h_written_move (by omega) (a_cons (de_var 2) (a_cons (de_var 3) a_nil)) (len_cons (len_cons len_nil))) (de_str [58])) (p_add c.blk.bx.K)) (de_cT call_str_int p_strI rfl z_str (by decide +kernel) (a_cons (de_var 4) a_nil))) (p_add c.blk.bx.K))) (sw_true rfl rfl rfl (by decide +kernel)))
    (ds_one (ds_ret (de_joinT (st := [32]) c.bx (det_op op_addAll (det_of (de_var 1)) (det_if (dt2 (pt_cmpR (op_neD c.hu64) (cb_fld c C_Match (i := 3) rfl (de_var 0)) (de_str []) (nomark _)) (p_ne c.bx)) (det_lst1 (det_rep (y := 32) (z := 61) (cb_fld c C_Match (i := 3) rfl (de_var 0)))) (det_of (de_lst a_nil))) (p_add c.bx.K))))))
abbrev s_number_in : Stmt := (top 53)
theorem sc_number_in : FnScope ["word", "sign"] ["word"] (defScope s_number_in) := ⟨rfl, rfl, rfl, by decide +kernel, rfl, by decide +kernel, by decide +kernel⟩
def g_number_in : DS :=
    (sSeq (sIf (Dn.tOr (Dn.tNot (tB (dChain (dC (.int 1)) (dA (aCons (dVar 0) aNil) kLen) (dC (.int 4)) (rd2 dLe) (rd2 dLe)))) (Dn.tOr (Dn.tNot (tB (dA (aCons (dLc (iSeq (dVar 0)) (fName 1) tYesD (d2 (dVar 1) (dC c_FIGURES_matches) (kIn false)) [1]) aNil) (rdA1 allDD)))) (Dn.tAnd (tB (d2 (d2 (dVar 0) (dC (.int 0)) kIx) (dC (.str [48])) (rd2 eqD))) (tB (d2 (dVar 0) (dC (.str [48])) (rd2 neD))))))
    (sRaise 2)
    sNil)
    (sRet (dA (aCons (dVar 0) aNil) (rdA1 intSD))))
def F_number_in : List D → Ret := pureOf 2 g_number_in
theorem b_number_in (z_all : mg "all" = none) (z_int : mg "int" = none) (z_len : mg "len" = none) (h_FIGURES_matches : GC (mkB P w K mg clA fN exA) "FIGURES_matches" c_FIGURES_matches) (h_BadText : ExcB (mkB P w K mg clA fN exA) "BadText" 2) : Body P w K mg base (mkB P w K mg clA fN exA) ["word", "sign"] "number_in" (defScope s_number_in) f (defBody s_number_in) 0 g_number_in := fun cdv A outer s H E hr => by
  have c := ctx_of (B := mkB P w K mg clA fN exA) (P := P) (w := w) (K := K) (mg := mg) (base := base) (outer := outer) (H := H) (E := E) ⟨rfl, rfl, rfl, rfl⟩ sc_number_in.nd hr
  exact (ds_cons (ds_if (PW.pt (dw_or (dt_not (dt_chain op_le op_le de_int (de_cB call_lenA (p_len c.bx) rfl z_len (by decide +kernel) (a_cons (de_var 0) a_nil)) de_int p_cmp p_cmp)) (dw_or (dt_not (dt_of (pt_val (de_cB (cr_all c.calm) p_all rfl z_all (by decide +kernel) (a_cons (de_lc fin_D [("sign", 1)] c.calm c.nd (di_seq c.bx (de_var 0)) (blkOk_by (N := ["word", "sign"]) (sc := defScope s_number_in) (by decide +kernel)) (fun _ _ _ _ _ => (df_name 1 c.blk.nd)) (fun _ _ _ _ _ => dts_nil) (fun _ _ _ _ _ => (de2 (pe_cmpR (op_inC c.blk.bx c.blk.hu) (de_var 1) (de_gc c.blk.bx h_FIGURES_matches) rfl) (p_inC c.blk.bx false)))) a_nil))) fun _ _ _ q => q)) (dw_or1 (PW.pt (dw_and (dt2 (pt_cmpR (op_eqD c.hu64) (de2 (pe_ix (ix_C c.bx c.hu) (de_var 0) de_int (fun _ _ => rfl)) (p_ixC c.bx)) (de_str [48]) (nomark _)) (p_eq c.bx)) (dw_and1 (dt2 (pt_cmpR (op_neD c.hu64) (de_var 0) (de_str [48]) (nomark _)) (p_ne c.bx)))))))))
    (ds_one (ds_raise c.calm c.tk (h_BadText.to c.bx) rfl))
    ds_nil)
    (ds_one (ds_ret (de_cT call_int_str p_intS rfl z_int (by decide +kernel) (a_cons (de_var 0) a_nil)))))
abbrev s_Game_state : Stmt := (inClass (top 46) 2)
theorem no_Game_state : ("state" : Str) ∉ fN 1 := by decide +kernel
theorem sc_Game_state : FnScope ["self", "now"] ["self"] (defScope s_Game_state) := ⟨rfl, rfl, rfl, by decide +kernel, rfl, by decide +kernel, by decide +kernel⟩
def g_Game_state : DS :=
    (sSeq (sSet 1 (d2 (dFld 1 1 (dVar 0)) (d1 (dC (.int 1)) (rd1 negD)) kIx))
    (sSeq (sIf (tB (d2 (dCall F_moves_moves (aCons (dVar 1) aNil)) (dLst aNil) (rd2 eqD)))
    (sRet (d2 (dC (.str [119, 111, 110, 32])) (dKD k_OTHER (d2 (dVar 1) (dC (.int 1)) kIx)) (rd2 addD)))
    sNil)
    (sSeq (sIf (tB (d2 (dMt isLst kCount (dFld 1 1 (dVar 0)) (aCons (dVar 1) aNil)) (dC (.int 3)) (rd2 dGe)))
    (sRet (dC (.str [116, 104, 114, 105, 99, 101])))
    sNil)
    (sRet (dIf (tB (d2 (d2 (dFld 1 3 (dVar 0)) (d1 (dC (.int 1)) (rd1 negD)) kIx) (dFld 1 0 (dVar 0)) (rd2 dGe))) (dC (.str [113, 117, 105, 101, 116])) (dC (.str [111, 112, 101, 110])))))))
def M_Game_state : List Val → Sto → Out Val := methT 2 g_Game_state
theorem b_Game_state (C_Game : ClB (mkB P w K mg clA fN exA) 1 4) (h_moves_moves : FnB P w K mg base 18 "moves_moves" ["stand"] (spP (mkB P w K mg clA fN exA) 1 F_moves_moves)) (h_OTHER : KD (mkB P w K mg clA fN exA) w "OTHER" k_OTHER) : Body P w K mg base (mkB P w K mg clA fN exA) ["self", "now"] "Game.state" (defScope s_Game_state) f (defBody s_Game_state) 18 g_Game_state := fun cdv A outer s H E hr => by
  have c := ctx_of (B := mkB P w K mg clA fN exA) (P := P) (w := w) (K := K) (mg := mg) (base := base) (outer := outer) (H := H) (E := E) ⟨rfl, rfl, rfl, rfl⟩ sc_Game_state.nd hr
  exact (ds_cons (ds_set 1 c.nd (de2 (pe_ix (ix_C c.bx c.hu) (cb_fld c C_Game (i := 1) rfl (de_var 0)) (de1 (pe_un un_neg de_int) p_neg) (fun _ _ => rfl)) (p_ixC c.bx)))
    (ds_cons (ds_if (dt2 (pt_cmpR (op_eqD c.hu64) (cb_call c h_moves_moves (by omega) (a_cons (de_var 1) a_nil) (len_cons len_nil)) (de_lst a_nil) (nomark _)) (p_eq c.bx))
    (ds_one (ds_ret (de2 (pe_op op_addAll (de_str [119, 111, 110, 32]) (de_kd c.bx h_OTHER (de2 (pe_ix (ix_C c.bx c.hu) (de_var 1) de_int (fun _ _ => rfl)) (p_ixC c.bx)))) (p_add c.bx.K))))
    ds_nil)
    (ds_cons (ds_if (dt2 (pt_cmpR op_ge (de_mt PySem.F.plainAttrs_list PySem.F.slot_list_count PySem.F.type_list_count (mt_countD c.hu65) tp_lst (p_countL c.bx) (cb_fld c C_Game (i := 1) rfl (de_var 0)) (a_cons (de_var 1) a_nil)) de_int (nomark _)) p_cmp)
    (ds_one (ds_ret (de_str [116, 104, 114, 105, 99, 101])))
    ds_nil)
    (ds_one (ds_ret (de_if (dt2 (pt_cmpR op_ge (de2 (pe_ix (ix_C c.bx c.hu) (cb_fld c C_Game (i := 3) rfl (de_var 0)) (de1 (pe_un un_neg de_int) p_neg) (fun _ _ => rfl)) (p_ixC c.bx)) (cb_fld c C_Game (i := 0) rfl (de_var 0)) (nomark _)) p_cmp) (de_str [113, 117, 105, 101, 116]) (de_str [111, 112, 101, 110])))))))
abbrev s_Match_state : Stmt := (inClass (top 51) 4)
theorem no_Match_state : ("state" : Str) ∉ fN 2 := by decide +kernel
theorem sc_Match_state : FnScope ["self"] ["self"] (defScope s_Match_state) := ⟨rfl, rfl, rfl, by decide +kernel, rfl, by decide +kernel, by decide +kernel⟩
def g_Match_state : DS :=
    (sRet (dIf (tB (d2 (dFld 2 3 (dVar 0)) (dC (.str [])) (rd2 neD))) (dFld 2 3 (dVar 0)) (dMeth M_Game_state 1 (dFld 2 0 (dVar 0)) aNil)))
def M_Match_state : List Val → Sto → Out Val := methT 1 g_Match_state
theorem b_Match_state (C_Game : ClB (mkB P w K mg clA fN exA) 1 4) (C_Match : ClB (mkB P w K mg clA fN exA) 2 4) (h_Game_state : MtB P w K mg base 19 (clA 1) "state" ["self"] (spM (mkB P w K mg clA fN exA) 1 M_Game_state)) : Body P w K mg base (mkB P w K mg clA fN exA) ["self"] "Match.state" (defScope s_Match_state) f (defBody s_Match_state) 19 g_Match_state := fun cdv A outer s H E hr => by
  have c := ctx_of (B := mkB P w K mg clA fN exA) (P := P) (w := w) (K := K) (mg := mg) (base := base) (outer := outer) (H := H) (E := E) ⟨rfl, rfl, rfl, rfl⟩ sc_Match_state.nd hr
  exact (ds_one (ds_ret (de_if (dt2 (pt_cmpR (op_neD c.hu64) (cb_fld c C_Match (i := 3) rfl (de_var 0)) (de_str []) (nomark _)) (p_ne c.bx)) (cb_fld c C_Match (i := 3) rfl (de_var 0)) (cb_meth0 c C_Game h_Game_state (by omega) (cb_fld c C_Match (i := 0) rfl (de_var 0)) no_Game_state))))
abbrev s_Match_need_open : Stmt := (inClass (top 51) 5)
theorem no_Match_need_open : ("need_open" : Str) ∉ fN 2 := by decide +kernel
theorem sc_Match_need_open : FnScope ["self"] ["self"] (defScope s_Match_need_open) := ⟨rfl, rfl, rfl, by decide +kernel, rfl, by decide +kernel, by decide +kernel⟩
def g_Match_need_open : DS :=
    (sIf (tB (d2 (dMeth M_Match_state 2 (dVar 0) aNil) (dC (.str [111, 112, 101, 110])) (rd2 neD)))
    (sRaise 4)
    sNil)
def M_Match_need_open : List Val → Sto → Out Val := methT 1 g_Match_need_open
theorem b_Match_need_open (C_Match : ClB (mkB P w K mg clA fN exA) 2 4) (h_Over : ExcB (mkB P w K mg clA fN exA) "Over" 4) (h_Match_state : MtB P w K mg base 20 (clA 2) "state" ["self"] (spM (mkB P w K mg clA fN exA) 1 M_Match_state)) : Body P w K mg base (mkB P w K mg clA fN exA) ["self"] "Match.need_open" (defScope s_Match_need_open) f (defBody s_Match_need_open) 20 g_Match_need_open := fun cdv A outer s H E hr => by
  have c := ctx_of (B := mkB P w K mg clA fN exA) (P := P) (w := w) (K := K) (mg := mg) (base := base) (outer := outer) (H := H) (E := E) ⟨rfl, rfl, rfl, rfl⟩ sc_Match_need_open.nd hr
  exact (ds_one (ds_if (dt2 (pt_cmpR (op_neD c.hu64) (cb_meth0 c C_Match h_Match_state (by omega) (de_var 0) no_Match_state) (de_str [111, 112, 101, 110]) (nomark _)) (p_ne c.bx))
    (ds_one (ds_raise c.calm c.tk (h_Over.to c.bx) rfl))
    ds_nil))
abbrev s_Game_stand : Stmt := (inClass (top 46) 1)
theorem no_Game_stand : ("stand" : Str) ∉ fN 1 := by decide +kernel
theorem sc_Game_stand : FnScope ["self"] ["self"] (defScope s_Game_stand) := ⟨rfl, rfl, rfl, by decide +kernel, rfl, by decide +kernel, by decide +kernel⟩
def g_Game_stand : DS :=
    (sRet (d2 (dFld 1 1 (dVar 0)) (d1 (dC (.int 1)) (rd1 negD)) kIx))
def M_Game_stand : List Val → Sto → Out Val := methT 1 g_Game_stand
theorem b_Game_stand (C_Game : ClB (mkB P w K mg clA fN exA) 1 4) : Body P w K mg base (mkB P w K mg clA fN exA) ["self"] "Game.stand" (defScope s_Game_stand) f (defBody s_Game_stand) 0 g_Game_stand := fun cdv A outer s H E hr => by
  have c := ctx_of (B := mkB P w K mg clA fN exA) (P := P) (w := w) (K := K) (mg := mg) (base := base) (outer := outer) (H := H) (E := E) ⟨rfl, rfl, rfl, rfl⟩ sc_Game_stand.nd hr
  exact (ds_one (ds_ret (de2 (pe_ix (ix_C c.bx c.hu) (cb_fld c C_Game (i := 1) rfl (de_var 0)) (de1 (pe_un un_neg de_int) p_neg) (fun _ _ => rfl)) (p_ixC c.bx))))
abbrev s_Match_stand : Stmt := (inClass (top 51) 1)
theorem no_Match_stand : ("stand" : Str) ∉ fN 2 := by decide +kernel
theorem sc_Match_stand : FnScope ["self"] ["self"] (defScope s_Match_stand) := ⟨rfl, rfl, rfl, by decide +kernel, rfl, by decide +kernel, by decide +kernel⟩
def g_Match_stand : DS :=
    (sRet (dMeth M_Game_stand 1 (dFld 2 0 (dVar 0)) aNil))
def M_Match_stand : List Val → Sto → Out Val := methT 1 g_Match_stand
theorem b_Match_stand (C_Game : ClB (mkB P w K mg clA fN exA) 1 4) (C_Match : ClB (mkB P w K mg clA fN exA) 2 4) (h_Game_stand : MtB P w K mg base 1 (clA 1) "stand" ["self"] (spM (mkB P w K mg clA fN exA) 1 M_Game_stand)) : Body P w K mg base (mkB P w K mg clA fN exA) ["self"] "Match.stand" (defScope s_Match_stand) f (defBody s_Match_stand) 1 g_Match_stand := fun cdv A outer s H E hr => by
  have c := ctx_of (B := mkB P w K mg clA fN exA) (P := P) (w := w) (K := K) (mg := mg) (base := base) (outer := outer) (H := H) (E := E) ⟨rfl, rfl, rfl, rfl⟩ sc_Match_stand.nd hr
  exact (ds_one (ds_ret (cb_meth0 c C_Game h_Game_stand (by omega) (cb_fld c C_Match (i := 0) rfl (de_var 0)) no_Game_stand)))
abbrev s_Match_give_up : Stmt := (inClass (top 51) 7)
theorem no_Match_give_up : ("give_up" : Str) ∉ fN 2 := by decide +kernel
theorem sc_Match_give_up : FnScope ["self"] ["self"] (defScope s_Match_give_up) := ⟨rfl, rfl, rfl, by decide +kernel, rfl, by decide +kernel, by decide +kernel⟩
def g_Match_give_up : DS :=
    (sSeq (sExpr (dMeth M_Match_need_open 2 (dVar 0) aNil))
    (sAsg (d2 (dC (.str [103, 105, 118, 101, 110, 32])) (d2 (dMeth M_Match_stand 2 (dVar 0) aNil) (dC (.int 1)) kIx) (rd2 addD)) (nFld 2 3 0)))
def M_Match_give_up : List Val → Sto → Out Val := methOf 1 g_Match_give_up
theorem b_Match_give_up (C_Match : ClB (mkB P w K mg clA fN exA) 2 4) (h_Match_need_open : MtB P w K mg base 21 (clA 2) "need_open" ["self"] (spM (mkB P w K mg clA fN exA) 1 M_Match_need_open)) (h_Match_stand : MtB P w K mg base 2 (clA 2) "stand" ["self"] (spM (mkB P w K mg clA fN exA) 1 M_Match_stand)) : Body P w K mg base (mkB P w K mg clA fN exA) ["self"] "Match.give_up" (defScope s_Match_give_up) f (defBody s_Match_give_up) 21 g_Match_give_up := fun cdv A outer s H E hr => by
  have c := ctx_of (B := mkB P w K mg clA fN exA) (P := P) (w := w) (K := K) (mg := mg) (base := base) (outer := outer) (H := H) (E := E) ⟨rfl, rfl, rfl, rfl⟩ sc_Match_give_up.nd hr
  exact (ds_cons (ds_expr (cb_meth0 c C_Match h_Match_need_open (by omega) (de_var 0) no_Match_need_open))
    (ds_one (ds_asg (de2 (pe_op op_addAll (de_str [103, 105, 118, 101, 110, 32]) (de2 (pe_ix (ix_C c.bx c.hu) (cb_meth0 c C_Match h_Match_stand (by omega) (de_var 0) no_Match_stand) de_int (fun _ _ => rfl)) (p_ixC c.bx))) (p_add c.bx.K)) (cg_fld (W := wE E) 0 c C_Match (i := 3) rfl (de_var 0)))))
abbrev s_Match_left : Stmt := (inClass (top 51) 2)
theorem no_Match_left : ("left" : Str) ∉ fN 2 := by decide +kernel
theorem sc_Match_left : FnScope ["self", "found", "at", "own", "side"] ["self"] (defScope s_Match_left) := ⟨rfl, rfl, rfl, by decide +kernel, rfl, by decide +kernel, by decide +kernel⟩
def g_Match_left : DS :=
    (sSeq (sSet 1 (cDispV [([119], (dFld 2 1 (dVar 0))), ([98], (dFld 2 1 (dVar 0)))]))
    (sSeq (sFor (iEnumC (dFld 2 2 (dVar 0))) (nTup 2 (nCons (nName 2) (nCons (nName 3) nNil)))
    (sSeq (sSet 4 (d2 (d2 (dFld 1 1 (dFld 2 0 (dVar 0))) (dVar 2) kIx) (dC (.int 1)) kIx))
    (sAsg (dA (aCons (dC (.int 0)) (aCons (d2 (d2 (dVar 1) (dVar 4) kIx) (dVar 3) (rd2 subD)) aNil)) (rdA2 max2D)) (nSub (dVar 1) (dVar 4)))))
    (sRet (dTup (aCons (d2 (dVar 1) (dC (.str [119])) kIx) (aCons (d2 (dVar 1) (dC (.str [98])) kIx) aNil))))))
def M_Match_left : List Val → Sto → Out Val := methT 5 g_Match_left
theorem b_Match_left (z_enumerate : mg "enumerate" = none) (z_max : mg "max" = none) (C_Game : ClB (mkB P w K mg clA fN exA) 1 4) (C_Match : ClB (mkB P w K mg clA fN exA) 2 4) : Body P w K mg base (mkB P w K mg clA fN exA) ["self", "found", "at", "own", "side"] "Match.left" (defScope s_Match_left) f (defBody s_Match_left) 0 g_Match_left := fun cdv A outer s H E hr => by
  have c := ctx_of (B := mkB P w K mg clA fN exA) (P := P) (w := w) (K := K) (mg := mg) (base := base) (outer := outer) (H := H) (E := E) ⟨rfl, rfl, rfl, rfl⟩ sc_Match_left.nd hr
  exact (ds_cons (ds_set 1 c.nd (de_dispV [([119], (dFld 2 1 (dVar 0))), ([98], (dFld 2 1 (dVar 0)))] (pps_cons pe_str (cb_fld c C_Match (i := 1) rfl (de_var 0)) (pps_cons pe_str (cb_fld c C_Match (i := 1) rfl (de_var 0)) pps_nil))))
    (ds_cons (ds_for c.po c.calm (di_enumC c.bx rfl z_enumerate (cb_fld c C_Match (i := 2) rfl (de_var 0))) (dg_tup c.bx c.calm (dgs_cons (dg_name 2 c.nd) (dgs_cons (dg_name 3 c.nd) dgs_nil)))
    (ds_cons (ds_set 4 c.nd (de2 (pe_ix (ix_C c.bx c.hu) (de2 (pe_ix (ix_C c.bx c.hu) (cb_fld c C_Game (i := 1) rfl (cb_fld c C_Match (i := 0) rfl (de_var 0))) (de_var 2) (fun _ _ => rfl)) (p_ixC c.bx)) de_int (fun _ _ => rfl)) (p_ixC c.bx)))
    (ds_one (ds_asg (de_cB (call_max2 c.calm) p_max2 rfl z_max (by decide +kernel) (a_cons de_int (a_cons (de2 (pe_op op_sub (de2 (pe_ix (ix_C c.bx c.hu) (de_var 1) (de_var 4) (fun _ _ => rfl)) (p_ixC c.bx)) (de_var 3)) p_sub) a_nil))) (dg_sub (W := wE E) c.bx c.hu (de_var 1) (de_var 4))))))
    (ds_one (ds_ret (de_tup (a_cons (de2 (pe_ix (ix_C c.bx c.hu) (de_var 1) (de_str [119]) (fun _ _ => rfl)) (p_ixC c.bx)) (a_cons (de2 (pe_ix (ix_C c.bx c.hu) (de_var 1) (de_str [98]) (fun _ _ => rfl)) (p_ixC c.bx)) a_nil)))))))
abbrev s_Match_own_left : Stmt := (inClass (top 51) 3)
theorem no_Match_own_left : ("own_left" : Str) ∉ fN 2 := by decide +kernel
theorem sc_Match_own_left : FnScope ["self"] ["self"] (defScope s_Match_own_left) := ⟨rfl, rfl, rfl, by decide +kernel, rfl, by decide +kernel, by decide +kernel⟩
def g_Match_own_left : DS :=
    (sRet (d2 (dMeth M_Match_left 2 (dVar 0) aNil) (dIf (tB (d2 (d2 (dMeth M_Match_stand 2 (dVar 0) aNil) (dC (.int 1)) kIx) (dC (.str [119])) (rd2 eqD))) (dC (.int 0)) (dC (.int 1))) kIx))
def M_Match_own_left : List Val → Sto → Out Val := methT 1 g_Match_own_left
theorem b_Match_own_left (C_Match : ClB (mkB P w K mg clA fN exA) 2 4) (h_Match_left : MtB P w K mg base 1 (clA 2) "left" ["self"] (spM (mkB P w K mg clA fN exA) 1 M_Match_left)) (h_Match_stand : MtB P w K mg base 2 (clA 2) "stand" ["self"] (spM (mkB P w K mg clA fN exA) 1 M_Match_stand)) : Body P w K mg base (mkB P w K mg clA fN exA) ["self"] "Match.own_left" (defScope s_Match_own_left) f (defBody s_Match_own_left) 2 g_Match_own_left := fun cdv A outer s H E hr => by
  have c := ctx_of (B := mkB P w K mg clA fN exA) (P := P) (w := w) (K := K) (mg := mg) (base := base) (outer := outer) (H := H) (E := E) ⟨rfl, rfl, rfl, rfl⟩ sc_Match_own_left.nd hr
  exact (ds_one (ds_ret (de2 (pe_ix (ix_C c.bx c.hu) (cb_meth0 c C_Match h_Match_left (by omega) (de_var 0) no_Match_left) (de_if (dt2 (pt_cmpR (op_eqD c.hu64) (de2 (pe_ix (ix_C c.bx c.hu) (cb_meth0 c C_Match h_Match_stand (by omega) (de_var 0) no_Match_stand) de_int (fun _ _ => rfl)) (p_ixC c.bx)) (de_str [119]) (nomark _)) (p_eq c.bx)) de_int de_int) (fun _ _ => rfl)) (p_ixC c.bx))))
abbrev s_Game_play : Stmt := (inClass (top 46) 3)
theorem no_Game_play : ("play" : Str) ∉ fN 1 := by decide +kernel
theorem sc_Game_play : FnScope ["self", "move", "now", "prey", "is_quiet"] ["self", "move"] (defScope s_Game_play) := ⟨rfl, rfl, rfl, by decide +kernel, rfl, by decide +kernel, by decide +kernel⟩
def g_Game_play : DS :=
    (sSeq (sIf (tB (d2 (dMeth M_Game_state 1 (dVar 0) aNil) (dC (.str [111, 112, 101, 110])) (rd2 neD)))
    (sRaise 4)
    sNil)
    (sSeq (sSet 2 (d2 (dFld 1 1 (dVar 0)) (d1 (dC (.int 1)) (rd1 negD)) kIx))
    (sSeq (sSet 3 (dCall F_need_move (aCons (dVar 2) (aCons (dVar 1) aNil))))
    (sSeq (sSet 4 (dAnd (d2 (dVar 3) (dLst aNil) (rd2 eqD)) (d2 (d2 (d2 (d2 (dVar 2) (dC (.int 0)) kIx) (d2 (d2 (dVar 1) (dC (.int 0)) kIx) (dC (.int 0)) kIx) kIx) (d2 (d2 (dVar 1) (dC (.int 0)) kIx) (dC (.int 1)) kIx) kIx) (dC c_KINGS) (kIn false))))
    (sSeq (sExpr (dMt isLst kApp (dFld 1 1 (dVar 0)) (aCons (dCall F_moved (aCons (dVar 2) (aCons (dVar 1) (aCons (dVar 3) aNil)))) aNil)))
    (sSeq (sExpr (dMt isLst kApp (dFld 1 2 (dVar 0)) (aCons (dVar 1) aNil)))
    (sExpr (dMt isLst kApp (dFld 1 3 (dVar 0)) (aCons (dIf (tB (dVar 4)) (d2 (d2 (dFld 1 3 (dVar 0)) (d1 (dC (.int 1)) (rd1 negD)) kIx) (dC (.int 1)) (rd2 addD)) (dC (.int 0))) aNil)))))))))
def M_Game_play : List Val → Sto → Out Val := methOf 5 g_Game_play
theorem b_Game_play (C_Game : ClB (mkB P w K mg clA fN exA) 1 4) (h_KINGS : GC (mkB P w K mg clA fN exA) "KINGS" c_KINGS) (h_Over : ExcB (mkB P w K mg clA fN exA) "Over" 4) (h_moved : FnB P w K mg base 2 "moved" ["stand", "move", "prey"] (spP (mkB P w K mg clA fN exA) 3 F_moved)) (h_need_move : FnB P w K mg base 18 "need_move" ["stand", "move"] (spP (mkB P w K mg clA fN exA) 2 F_need_move)) (h_Game_state : MtB P w K mg base 19 (clA 1) "state" ["self"] (spM (mkB P w K mg clA fN exA) 1 M_Game_state)) : Body P w K mg base (mkB P w K mg clA fN exA) ["self", "move", "now", "prey", "is_quiet"] "Game.play" (defScope s_Game_play) f (defBody s_Game_play) 19 g_Game_play := fun cdv A outer s H E hr => by
  have c := ctx_of (B := mkB P w K mg clA fN exA) (P := P) (w := w) (K := K) (mg := mg) (base := base) (outer := outer) (H := H) (E := E) ⟨rfl, rfl, rfl, rfl⟩ sc_Game_play.nd hr
  exact (ds_cons (ds_if (dt2 (pt_cmpR (op_neD c.hu64) (cb_meth0 c C_Game h_Game_state (by omega) (de_var 0) no_Game_state) (de_str [111, 112, 101, 110]) (nomark _)) (p_ne c.bx))
    (ds_one (ds_raise c.calm c.tk (h_Over.to c.bx) rfl))
    ds_nil)
    (ds_cons (ds_set 2 c.nd (de2 (pe_ix (ix_C c.bx c.hu) (cb_fld c C_Game (i := 1) rfl (de_var 0)) (de1 (pe_un un_neg de_int) p_neg) (fun _ _ => rfl)) (p_ixC c.bx)))
    (ds_cons (ds_set 3 c.nd (cb_call c h_need_move (by omega) (a_cons (de_var 2) (a_cons (de_var 1) a_nil)) (len_cons (len_cons len_nil))))
    (ds_cons (ds_set 4 c.nd (de_and (de2 (pe_cmpR (op_eqD c.hu64) (de_var 3) (de_lst a_nil) (nomark _)) (p_eq c.bx)) (de_one (de2 (pe_cmpR (op_inC c.bx c.hu) (de2 (pe_ix (ix_C c.bx c.hu) (de2 (pe_ix (ix_C c.bx c.hu) (de2 (pe_ix (ix_C c.bx c.hu) (de_var 2) de_int (fun _ _ => rfl)) (p_ixC c.bx)) (de2 (pe_ix (ix_C c.bx c.hu) (de2 (pe_ix (ix_C c.bx c.hu) (de_var 1) de_int (fun _ _ => rfl)) (p_ixC c.bx)) de_int (fun _ _ => rfl)) (p_ixC c.bx)) (fun _ _ => rfl)) (p_ixC c.bx)) (de2 (pe_ix (ix_C c.bx c.hu) (de2 (pe_ix (ix_C c.bx c.hu) (de_var 1) de_int (fun _ _ => rfl)) (p_ixC c.bx)) de_int (fun _ _ => rfl)) (p_ixC c.bx)) (fun _ _ => rfl)) (p_ixC c.bx)) (de_gc c.bx h_KINGS) rfl) (p_inC c.bx false)))))
    (ds_cons (ds_expr (de_mt PySem.F.plainAttrs_list PySem.F.slot_list_append PySem.F.type_list_append mt_append tp_lst p_app (cb_fld c C_Game (i := 1) rfl (de_var 0)) (a_cons (cb_call c h_moved (by omega) (a_cons (de_var 2) (a_cons (de_var 1) (a_cons (de_var 3) a_nil))) (len_cons (len_cons (len_cons len_nil)))) a_nil)))
    (ds_cons (ds_expr (de_mt PySem.F.plainAttrs_list PySem.F.slot_list_append PySem.F.type_list_append mt_append tp_lst p_app (cb_fld c C_Game (i := 2) rfl (de_var 0)) (a_cons (de_var 1) a_nil)))
    (ds_one (ds_expr (de_mt PySem.F.plainAttrs_list PySem.F.slot_list_append PySem.F.type_list_append mt_append tp_lst p_app (cb_fld c C_Game (i := 3) rfl (de_var 0)) (a_cons (de_if (dt_of (pt_val (de_var 4)) fun _ _ _ q => q) (de2 (pe_op op_addAll (de2 (pe_ix (ix_C c.bx c.hu) (cb_fld c C_Game (i := 3) rfl (de_var 0)) (de1 (pe_un un_neg de_int) p_neg) (fun _ _ => rfl)) (p_ixC c.bx)) de_int) (p_add c.bx.K)) de_int) a_nil))))))))))
abbrev s_Match_play : Stmt := (inClass (top 51) 6)
theorem no_Match_play : ("play" : Str) ∉ fN 2 := by decide +kernel
theorem sc_Match_play : FnScope ["self", "move", "spent"] ["self", "move", "spent"] (defScope s_Match_play) := ⟨rfl, rfl, rfl, by decide +kernel, rfl, by decide +kernel, by decide +kernel⟩
def g_Match_play : DS :=
    (sSeq (sExpr (dMeth M_Match_need_open 2 (dVar 0) aNil))
    (sSeq (sIf (Dn.tNot (tB (dCall F_is_ticks (aCons (dVar 2) (aCons (dC (.int 0)) aNil)))))
    (sRaise 3)
    sNil)
    (sSeq (sExpr (dCall F_need_move (aCons (dMeth M_Match_stand 2 (dVar 0) aNil) (aCons (dVar 1) aNil))))
    (sSeq (sIf (tB (d2 (dVar 2) (dMeth M_Match_own_left 2 (dVar 0) aNil) (rd2 dGt)))
    (sSeq (sAsg (d2 (dC (.str [108, 97, 116, 101, 32])) (d2 (dMeth M_Match_stand 2 (dVar 0) aNil) (dC (.int 1)) kIx) (rd2 addD)) (nFld 2 3 0))
    (sRet (dC (.bl false))))
    sNil)
    (sSeq (sExpr (dMeth M_Game_play 1 (dFld 2 0 (dVar 0)) (aCons (dVar 1) aNil)))
    (sSeq (sExpr (dMt isLst kApp (dFld 2 2 (dVar 0)) (aCons (dVar 2) aNil)))
    (sRet (dC (.bl true)))))))))
def M_Match_play : List Val → Sto → Out Val := methOf 3 g_Match_play
theorem b_Match_play (C_Game : ClB (mkB P w K mg clA fN exA) 1 4) (C_Match : ClB (mkB P w K mg clA fN exA) 2 4) (h_BadCount : ExcB (mkB P w K mg clA fN exA) "BadCount" 3) (h_is_ticks : FnB P w K mg base 1 "is_ticks" ["thing", "least"] (spP (mkB P w K mg clA fN exA) 2 F_is_ticks)) (h_need_move : FnB P w K mg base 18 "need_move" ["stand", "move"] (spP (mkB P w K mg clA fN exA) 2 F_need_move)) (h_Game_play : MtB P w K mg base 20 (clA 1) "play" ["self", "move"] (spM (mkB P w K mg clA fN exA) 2 M_Game_play)) (h_Match_need_open : MtB P w K mg base 21 (clA 2) "need_open" ["self"] (spM (mkB P w K mg clA fN exA) 1 M_Match_need_open)) (h_Match_own_left : MtB P w K mg base 3 (clA 2) "own_left" ["self"] (spM (mkB P w K mg clA fN exA) 1 M_Match_own_left)) (h_Match_stand : MtB P w K mg base 2 (clA 2) "stand" ["self"] (spM (mkB P w K mg clA fN exA) 1 M_Match_stand)) : Body P w K mg base (mkB P w K mg clA fN exA) ["self", "move", "spent"] "Match.play" (defScope s_Match_play) f (defBody s_Match_play) 21 g_Match_play := fun cdv A outer s H E hr => by
  have c := ctx_of (B := mkB P w K mg clA fN exA) (P := P) (w := w) (K := K) (mg := mg) (base := base) (outer := outer) (H := H) (E := E) ⟨rfl, rfl, rfl, rfl⟩ sc_Match_play.nd hr
  exact (ds_cons (ds_expr (cb_meth0 c C_Match h_Match_need_open (by omega) (de_var 0) no_Match_need_open))
    (ds_cons (ds_if (dt_not (dt_of (pt_val (cb_call c h_is_ticks (by omega) (a_cons (de_var 2) (a_cons de_int a_nil)) (len_cons (len_cons len_nil)))) fun _ _ _ q => q))
    (ds_one (ds_raise c.calm c.tk (h_BadCount.to c.bx) rfl))
    ds_nil)
    (ds_cons (ds_expr (cb_call c h_need_move (by omega) (a_cons (cb_meth0 c C_Match h_Match_stand (by omega) (de_var 0) no_Match_stand) (a_cons (de_var 1) a_nil)) (len_cons (len_cons len_nil))))
    (ds_cons (ds_if (dt2 (pt_cmpR op_gt (de_var 2) (cb_meth0 c C_Match h_Match_own_left (by omega) (de_var 0) no_Match_own_left) (nomark _)) p_cmp)
    (ds_cons (ds_asg (de2 (pe_op op_addAll (de_str [108, 97, 116, 101, 32]) (de2 (pe_ix (ix_C c.bx c.hu) (cb_meth0 c C_Match h_Match_stand (by omega) (de_var 0) no_Match_stand) de_int (fun _ _ => rfl)) (p_ixC c.bx))) (p_add c.bx.K)) (cg_fld (W := wE E) 0 c C_Match (i := 3) rfl (de_var 0)))
    (ds_one (ds_ret de_bl)))
    ds_nil)
    (ds_cons (ds_expr (cb_meth c C_Game h_Game_play (by omega) (cb_fld c C_Match (i := 0) rfl (de_var 0)) (a_cons (de_var 1) a_nil) (len_cons len_nil) no_Game_play))
    (ds_cons (ds_expr (de_mt PySem.F.plainAttrs_list PySem.F.slot_list_append PySem.F.type_list_append mt_append tp_lst p_app (cb_fld c C_Match (i := 2) rfl (de_var 0)) (a_cons (de_var 2) a_nil)))
    (ds_one (ds_ret de_bl))))))))
abbrev s_play_word : Stmt := (top 54)
theorem sc_play_word : FnScope ["match", "word", "text", "colon", "ticks"] ["match", "word"] (defScope s_play_word) := ⟨rfl, rfl, rfl, by decide +kernel, rfl, by decide +kernel, by decide +kernel⟩
def g_play_word : DS :=
    (sSeq (sIf (tB (d2 (dVar 1) (d2 (dC (.str [103, 105, 118, 101, 110, 61])) (d2 (dMeth M_Match_stand 2 (dVar 0) aNil) (dC (.int 1)) kIx) (rd2 addD)) (rd2 eqD)))
    (sSeq (sExpr (dMeth M_Match_give_up 2 (dVar 0) aNil))
    sRetN)
    sNil)
    (sSeq (sIf (tB (d2 (dVar 1) (d2 (dC (.str [108, 97, 116, 101, 61])) (d2 (dMeth M_Match_stand 2 (dVar 0) aNil) (dC (.int 1)) kIx) (rd2 addD)) (rd2 eqD)))
    (sSeq (sExpr (dMeth M_Match_need_open 2 (dVar 0) aNil))
    (sSeq (sIf (tB (d2 (dMeth M_Match_own_left 2 (dVar 0) aNil) (dC c_MOST_TICKS) (rd2 dGe)))
    (sRaise 2)
    sNil)
    (sSeq (sAsg (d2 (dC (.str [108, 97, 116, 101, 32])) (d2 (dMeth M_Match_stand 2 (dVar 0) aNil) (dC (.int 1)) kIx) (rd2 addD)) (nFld 2 3 0))
    sRetN)))
    sNil)
    (sSeq (sAsg (dMt isStr (rdM1 prtD) (dVar 1) (aCons (dC (.str [58])) aNil)) (nTup 3 (nCons (nName 2) (nCons (nName 3) (nCons (nName 4) nNil)))))
    (sIf (Dn.tOr (tB (d2 (dVar 3) (dC (.str [])) (rd2 eqD))) (Dn.tNot (tTr (dMeth M_Match_play 2 (dVar 0) (aCons (dCall F_read_move (aCons (dMeth M_Match_stand 2 (dVar 0) aNil) (aCons (dVar 2) aNil))) (aCons (dCall F_number_in (aCons (dVar 4) aNil)) aNil))))))
    (sRaise 2)
    sNil))))
def F_play_word : List D → Ret := pureOf 5 g_play_word
def M_play_word : List Val → Sto → Out Val := methOf 5 g_play_word
theorem b_play_word (C_Match : ClB (mkB P w K mg clA fN exA) 2 4) (h_MOST_TICKS : GC (mkB P w K mg clA fN exA) "MOST_TICKS" c_MOST_TICKS) (h_BadText : ExcB (mkB P w K mg clA fN exA) "BadText" 2) (h_number_in : FnB P w K mg base 1 "number_in" ["word"] (spP (mkB P w K mg clA fN exA) 1 F_number_in)) (h_read_move : FnB P w K mg base 18 "read_move" ["stand", "text"] (spP (mkB P w K mg clA fN exA) 2 F_read_move)) (h_Match_give_up : MtB P w K mg base 22 (clA 2) "give_up" ["self"] (spM (mkB P w K mg clA fN exA) 1 M_Match_give_up)) (h_Match_need_open : MtB P w K mg base 21 (clA 2) "need_open" ["self"] (spM (mkB P w K mg clA fN exA) 1 M_Match_need_open)) (h_Match_own_left : MtB P w K mg base 3 (clA 2) "own_left" ["self"] (spM (mkB P w K mg clA fN exA) 1 M_Match_own_left)) (h_Match_play : MtB P w K mg base 22 (clA 2) "play" ["self", "move", "spent"] (spM (mkB P w K mg clA fN exA) 3 M_Match_play)) (h_Match_stand : MtB P w K mg base 2 (clA 2) "stand" ["self"] (spM (mkB P w K mg clA fN exA) 1 M_Match_stand)) : Body P w K mg base (mkB P w K mg clA fN exA) ["match", "word", "text", "colon", "ticks"] "play_word" (defScope s_play_word) f (defBody s_play_word) 22 g_play_word := fun cdv A outer s H E hr => by
  have c := ctx_of (B := mkB P w K mg clA fN exA) (P := P) (w := w) (K := K) (mg := mg) (base := base) (outer := outer) (H := H) (E := E) ⟨rfl, rfl, rfl, rfl⟩ sc_play_word.nd hr
  exact (ds_cons (ds_if (dt2 (pt_cmpR (op_eqD c.hu64) (de_var 1) (de2 (pe_op op_addAll (de_str [103, 105, 118, 101, 110, 61]) (de2 (pe_ix (ix_C c.bx c.hu) (cb_meth0 c C_Match h_Match_stand (by omega) (de_var 0) no_Match_stand) de_int (fun _ _ => rfl)) (p_ixC c.bx))) (p_add c.bx.K)) (nomark _)) (p_eq c.bx))
    (ds_cons (ds_expr (cb_meth0 c C_Match h_Match_give_up (by omega) (de_var 0) no_Match_give_up))
    (ds_one ds_retN))
    ds_nil)
    (ds_cons (ds_if (dt2 (pt_cmpR (op_eqD c.hu64) (de_var 1) (de2 (pe_op op_addAll (de_str [108, 97, 116, 101, 61]) (de2 (pe_ix (ix_C c.bx c.hu) (cb_meth0 c C_Match h_Match_stand (by omega) (de_var 0) no_Match_stand) de_int (fun _ _ => rfl)) (p_ixC c.bx))) (p_add c.bx.K)) (nomark _)) (p_eq c.bx))
    (ds_cons (ds_expr (cb_meth0 c C_Match h_Match_need_open (by omega) (de_var 0) no_Match_need_open))
    (ds_cons (ds_if (dt2 (pt_cmpR op_ge (cb_meth0 c C_Match h_Match_own_left (by omega) (de_var 0) no_Match_own_left) (de_gc c.bx h_MOST_TICKS) (nomark _)) p_cmp)
    (ds_one (ds_raise c.calm c.tk (h_BadText.to c.bx) rfl))
    ds_nil)
    (ds_cons (ds_asg (de2 (pe_op op_addAll (de_str [108, 97, 116, 101, 32]) (de2 (pe_ix (ix_C c.bx c.hu) (cb_meth0 c C_Match h_Match_stand (by omega) (de_var 0) no_Match_stand) de_int (fun _ _ => rfl)) (p_ixC c.bx))) (p_add c.bx.K)) (cg_fld (W := wE E) 0 c C_Match (i := 3) rfl (de_var 0)))
    (ds_one ds_retN))))
    ds_nil)
    (ds_cons (ds_asg (de_mt PySem.F.plainAttrs_str PySem.F.slot_str_partition PySem.F.type_str_partition mt_partition tp_str p_part (de_var 1) (a_cons (de_str [58]) a_nil)) (dg_tup c.bx c.calm (dgs_cons (dg_name 2 c.nd) (dgs_cons (dg_name 3 c.nd) (dgs_cons (dg_name 4 c.nd) dgs_nil)))))
    (ds_one (ds_if (PW.pt (dw_or (dt2 (pt_cmpR (op_eqD c.hu64) (de_var 3) (de_str []) (nomark _)) (p_eq c.bx)) (dw_or1 (dt_not (dt_truth c.bx (cb_meth c C_Match h_Match_play (by omega) (de_var 0) (a_cons (cb_call c h_read_move (by omega) (a_cons (cb_meth0 c C_Match h_Match_stand (by omega) (de_var 0) no_Match_stand) (a_cons (de_var 2) a_nil)) (len_cons (len_cons len_nil))) (a_cons (cb_call c h_number_in (by omega) (a_cons (de_var 4) a_nil) (len_cons len_nil)) a_nil)) (len_cons (len_cons len_nil)) no_Match_play))))))
    (ds_one (ds_raise c.calm c.tk (h_BadText.to c.bx) rfl))
    ds_nil)))))
abbrev s_Game_init : Stmt := (inClass (top 46) 0)
theorem no_Game_init : ("__init__" : Str) ∉ fN 1 := by decide +kernel
theorem sc_Game_init : FnScope ["self", "stand", "bound"] ["self", "stand", "bound"] (defScope s_Game_init) := ⟨rfl, rfl, rfl, by decide +kernel, rfl, by decide +kernel, by decide +kernel⟩
def g_Game_init : DS :=
    (sSeq (sExpr (dCall F_need_stand (aCons (dVar 1) aNil)))
    (sSeq (sIf (Dn.tOr (Dn.tNot (tB (d1 (dVar 2) (kIs "int")))) (Dn.tOr (tB (d1 (dVar 2) (kIs "bool"))) (Dn.tNot (tB (dChain (dC (.int 1)) (dVar 2) (dC c_MOST_QUIET) (rd2 dLe) (rd2 dLe))))))
    (sRaise 3)
    sNil)
    (sSeq (sAsg (dVar 2) (nFld 1 0 0))
    (sSeq (sAsg (cLst (aCons (dVar 1) aNil)) (nFld 1 1 0))
    (sSeq (sAsg (cLst aNil) (nFld 1 2 0))
    (sAsg (cLst (aCons (dC (.int 0)) aNil)) (nFld 1 3 0)))))))
def M_Game_init : List Val → Sto → Out Val := methOf 3 g_Game_init
theorem b_Game_init (z_bool : mg "bool" = none) (z_int : mg "int" = none) (z_isinstance : mg "isinstance" = none) (C_Game : ClB (mkB P w K mg clA fN exA) 1 4) (h_MOST_QUIET : GC (mkB P w K mg clA fN exA) "MOST_QUIET" c_MOST_QUIET) (h_BadCount : ExcB (mkB P w K mg clA fN exA) "BadCount" 3) (h_need_stand : FnB P w K mg base 3 "need_stand" ["stand"] (spP (mkB P w K mg clA fN exA) 1 F_need_stand)) : Body P w K mg base (mkB P w K mg clA fN exA) ["self", "stand", "bound"] "Game.__init__" (defScope s_Game_init) f (defBody s_Game_init) 3 g_Game_init := fun cdv A outer s H E hr => by
  have c := ctx_of (B := mkB P w K mg clA fN exA) (P := P) (w := w) (K := K) (mg := mg) (base := base) (outer := outer) (H := H) (E := E) ⟨rfl, rfl, rfl, rfl⟩ sc_Game_init.nd hr
  exact (ds_cons (ds_expr (cb_call c h_need_stand (by omega) (a_cons (de_var 1) a_nil) (len_cons len_nil)))
    (ds_cons (ds_if (PW.pt (dw_or (dt_not (dt_of (pt_val (de_isi "int" c.bx rfl z_isinstance (by decide +kernel) rfl z_int (by decide +kernel) (by decide) (de_var 2))) fun _ _ _ q => q)) (dw_or (dt_of (pt_val (de_isi "bool" c.bx rfl z_isinstance (by decide +kernel) rfl z_bool (by decide +kernel) (by decide) (de_var 2))) fun _ _ _ q => q) (dw_or1 (dt_not (dt_chain op_le op_le de_int (de_var 2) (de_gc c.bx h_MOST_QUIET) p_cmp p_cmp))))))
    (ds_one (ds_raise c.calm c.tk (h_BadCount.to c.bx) rfl))
    ds_nil)
    (ds_cons (ds_asg (de_var 2) (cg_fld (W := wE E) 0 c C_Game (i := 0) rfl (de_var 0)))
    (ds_cons (ds_asg (de_lstC (a_cons (de_var 1) a_nil)) (cg_fld (W := wE E) 0 c C_Game (i := 1) rfl (de_var 0)))
    (ds_cons (ds_asg (de_lstC a_nil) (cg_fld (W := wE E) 0 c C_Game (i := 2) rfl (de_var 0)))
    (ds_one (ds_asg (de_lstC (a_cons de_int a_nil)) (cg_fld (W := wE E) 0 c C_Game (i := 3) rfl (de_var 0)))))))))
abbrev s_Match_init : Stmt := (inClass (top 51) 0)
theorem no_Match_init : ("__init__" : Str) ∉ fN 2 := by decide +kernel
theorem sc_Match_init : FnScope ["self", "stand", "bound", "ticks"] ["self", "stand", "bound", "ticks"] (defScope s_Match_init) := ⟨rfl, rfl, rfl, by decide +kernel, rfl, by decide +kernel, by decide +kernel⟩
def g_Match_init : DS :=
    (sSeq (sAsg (dNew 1 4 M_Game_init (aCons (dVar 1) (aCons (dVar 2) aNil))) (nFld 2 0 0))
    (sSeq (sIf (Dn.tNot (tB (dCall F_is_ticks (aCons (dVar 3) (aCons (dC (.int 1)) aNil)))))
    (sRaise 3)
    sNil)
    (sSeq (sAsg (dVar 3) (nFld 2 1 0))
    (sSeq (sAsg (cLst aNil) (nFld 2 2 0))
    (sAsg (dC (.str [])) (nFld 2 3 0))))))
def M_Match_init : List Val → Sto → Out Val := methOf 4 g_Match_init
theorem b_Match_init (C_Game : ClB (mkB P w K mg clA fN exA) 1 4) (C_Match : ClB (mkB P w K mg clA fN exA) 2 4) (h_BadCount : ExcB (mkB P w K mg clA fN exA) "BadCount" 3) (h_is_ticks : FnB P w K mg base 1 "is_ticks" ["thing", "least"] (spP (mkB P w K mg clA fN exA) 2 F_is_ticks)) (h_Game_init : MkB P w K mg base 4 (clA 1) "Game" ["self", "stand", "bound"] (spM (mkB P w K mg clA fN exA) 3 M_Game_init)) : Body P w K mg base (mkB P w K mg clA fN exA) ["self", "stand", "bound", "ticks"] "Match.__init__" (defScope s_Match_init) f (defBody s_Match_init) 5 g_Match_init := fun cdv A outer s H E hr => by
  have c := ctx_of (B := mkB P w K mg clA fN exA) (P := P) (w := w) (K := K) (mg := mg) (base := base) (outer := outer) (H := H) (E := E) ⟨rfl, rfl, rfl, rfl⟩ sc_Match_init.nd hr
  exact (ds_cons (ds_asg (cb_new c C_Game h_Game_init (by omega) (a_cons (de_var 1) (a_cons (de_var 2) a_nil)) (len_cons (len_cons len_nil))) (cg_fld (W := wE E) 0 c C_Match (i := 0) rfl (de_var 0)))
    (ds_cons (ds_if (dt_not (dt_of (pt_val (cb_call c h_is_ticks (by omega) (a_cons (de_var 3) (a_cons de_int a_nil)) (len_cons (len_cons len_nil)))) fun _ _ _ q => q))
    (ds_one (ds_raise c.calm c.tk (h_BadCount.to c.bx) rfl))
    ds_nil)
    (ds_cons (ds_asg (de_var 3) (cg_fld (W := wE E) 0 c C_Match (i := 1) rfl (de_var 0)))
    (ds_cons (ds_asg (de_lstC a_nil) (cg_fld (W := wE E) 0 c C_Match (i := 2) rfl (de_var 0)))
    (ds_one (ds_asg (de_str []) (cg_fld (W := wE E) 0 c C_Match (i := 3) rfl (de_var 0))))))))
abbrev s_read_match : Stmt := (top 55)
theorem sc_read_match : FnScope ["stand", "bound", "ticks", "text", "match", "word", "is_told"] ["stand", "bound", "ticks", "text"] (defScope s_read_match) := ⟨rfl, rfl, rfl, by decide +kernel, rfl, by decide +kernel, by decide +kernel⟩
def g_read_match : DS :=
    (sSeq (sSet 4 (dNew 2 4 M_Match_init (aCons (dVar 0) (aCons (dVar 1) (aCons (dVar 2) aNil)))))
    (sSeq (sFor (iSeq (dIf (tB (d2 (dVar 3) (dC (.str [])) (rd2 neD))) (dMt isStr (rdM1 splitD) (dVar 3) (aCons (dC (.str [32])) aNil)) (dLst aNil))) (nName 5)
    (sSeq (sSet 6 (dC (.bl true)))
    (sSeq (sTry 8 (sExpr (dCallM M_play_word (aCons (dVar 4) (aCons (dVar 5) aNil))))
    (sSet 6 (dC (.bl false))))
    (sIf (Dn.tNot (tB (dVar 6)))
    (sRaise 2)
    sNil))))
    (sRet (dVar 4))))
def F_read_match : List D → Ret := pureOf 7 g_read_match
def M_read_match : List Val → Sto → Out Val := methOf 7 g_read_match
theorem b_read_match (C_Match : ClB (mkB P w K mg clA fN exA) 2 4) (h_BadText : ExcB (mkB P w K mg clA fN exA) "BadText" 2) (hm_play_word : FnB P w K mg base 23 "play_word" ["match", "word"] (spM (mkB P w K mg clA fN exA) 2 M_play_word)) (h_LeapError : LeapB (mkB P w K mg clA fN exA) 8 "LeapError") (h_Match_init : MkB P w K mg base 6 (clA 2) "Match" ["self", "stand", "bound", "ticks"] (spM (mkB P w K mg clA fN exA) 4 M_Match_init)) : Body P w K mg base (mkB P w K mg clA fN exA) ["stand", "bound", "ticks", "text", "match", "word", "is_told"] "read_match" (defScope s_read_match) f (defBody s_read_match) 23 g_read_match := fun cdv A outer s H E hr => by
  have c := ctx_of (B := mkB P w K mg clA fN exA) (P := P) (w := w) (K := K) (mg := mg) (base := base) (outer := outer) (H := H) (E := E) ⟨rfl, rfl, rfl, rfl⟩ sc_read_match.nd hr
  exact (ds_cons (ds_set 4 c.nd (cb_new c C_Match h_Match_init (by omega) (a_cons (de_var 0) (a_cons (de_var 1) (a_cons (de_var 2) a_nil))) (len_cons (len_cons (len_cons len_nil)))))
    (ds_cons (ds_for c.po c.calm (di_seq c.bx (de_if (dt2 (pt_cmpR (op_neD c.hu64) (de_var 3) (de_str []) (nomark _)) (p_ne c.bx)) (de_mt PySem.F.plainAttrs_str PySem.F.slot_str_split PySem.F.type_str_split mt_split tp_str p_split (de_var 3) (a_cons (de_str [32]) a_nil)) (de_lst a_nil))) (dg_name 5 c.nd)
    (ds_cons (ds_set 6 c.nd de_bl)
    (ds_cons (ds_tryL c h_LeapError (fun _ _ _ c => (ds_one (ds_expr (cb_callM c hm_play_word (by omega) (a_cons (de_var 4) (a_cons (de_var 5) a_nil)) (len_cons (len_cons len_nil)))))) (fun _ _ => (ds_one (ds_set 6 c.nd de_bl))))
    (ds_one (ds_if (dt_not (dt_of (pt_val (de_var 6)) fun _ _ _ q => q))
    (ds_one (ds_raise c.calm c.tk (h_BadText.to c.bx) rfl))
    ds_nil)))))
    (ds_one (ds_ret (de_var 4)))))
abbrev s_u_law_cell : Stmt := (top 57)
theorem sc_u_law_cell : FnScope ["script", "k"] ["script", "k"] (defScope s_u_law_cell) := ⟨rfl, rfl, rfl, by decide +kernel, rfl, by decide +kernel, by decide +kernel⟩
def g_u_law_cell : DS :=
    (sSeq (sIf (tB (d2 (dVar 0) (dLst aNil) (rd2 eqD)))
    (sRet (d2 (dVar 1) (dC (.int 7919)) (rd2 mulI)))
    sNil)
    (sRet (d2 (d2 (dVar 0) (d2 (dVar 1) (dA (aCons (dVar 0) aNil) kLen) (rd2 modD)) kIx) (d2 (d2 (dVar 1) (dA (aCons (dVar 0) aNil) kLen) (rd2 fdivD)) (dC (.int 104729)) (rd2 mulI)) (rd2 addD))))
def F_u_law_cell : List D → Ret := pureOf 2 g_u_law_cell
theorem b_u_law_cell (z_len : mg "len" = none) : Body P w K mg base (mkB P w K mg clA fN exA) ["script", "k"] "_law_cell" (defScope s_u_law_cell) f (defBody s_u_law_cell) 0 g_u_law_cell := fun cdv A outer s H E hr => by
  have c := ctx_of (B := mkB P w K mg clA fN exA) (P := P) (w := w) (K := K) (mg := mg) (base := base) (outer := outer) (H := H) (E := E) ⟨rfl, rfl, rfl, rfl⟩ sc_u_law_cell.nd hr
  exact (ds_cons (ds_if (dt2 (pt_cmpR (op_eqD c.hu64) (de_var 0) (de_lst a_nil) (nomark _)) (p_eq c.bx))
    (ds_one (ds_ret (de2 (pe_op op_mulAll (de_var 1) de_int) (p_mulI _))))
    ds_nil)
    (ds_one (ds_ret (de2 (pe_op op_addAll (de2 (pe_ix (ix_C c.bx c.hu) (de_var 0) (de2 (pe_op op_mod (de_var 1) (de_cB call_lenA (p_len c.bx) rfl z_len (by decide +kernel) (a_cons (de_var 0) a_nil))) p_mod) (fun _ _ => rfl)) (p_ixC c.bx)) (de2 (pe_op op_mulAll (de2 (pe_op op_fdivW (de_var 1) (de_cB call_lenA (p_len c.bx) rfl z_len (by decide +kernel) (a_cons (de_var 0) a_nil))) p_fdiv) de_int) (p_mulI _))) (p_add c.bx.K)))))
abbrev s_u_law_drawn : Stmt := (top 58)
theorem sc_u_law_drawn : FnScope ["cell", "k", "more"] ["cell", "k"] (defScope s_u_law_drawn) := ⟨rfl, rfl, rfl, by decide +kernel, rfl, by decide +kernel, by decide +kernel⟩
def g_u_law_drawn : DS :=
    (sSeq (sSet 2 (d2 (d2 (d2 (dVar 0) (dC (.int 6364136223846793005)) (rd2 mulI)) (d2 (d2 (dVar 1) (dC (.int 1)) (rd2 addD)) (dC (.int 1442695040888963407)) (rd2 mulI)) (rd2 addD)) (dC (.int 340282366920938463463374607431768211507)) (rd2 modD)))
    (sSeq (sSet 2 (d2 (d2 (dVar 2) (dVar 2) (rd2 mulI)) (dC (.int 340282366920938463463374607431768211297)) (rd2 modD)))
    (sSeq (sSet 2 (d2 (d2 (d2 (d2 (dVar 2) (dC (.int 18446744073709551557)) (rd2 modD)) (dC (.int 1)) (rd2 addD)) (d2 (d2 (dVar 2) (dC (.int 18446744073709551557)) (rd2 fdivD)) (dC (.int 1)) (rd2 addD)) (rd2 mulI)) (dVar 2) (rd2 mulI)))
    (sRet (d2 (dVar 2) (dC (.int 340282366920938463463374607431768211507)) (rd2 modD))))))
def F_u_law_drawn : List D → Ret := pureOf 3 g_u_law_drawn
theorem b_u_law_drawn  : Body P w K mg base (mkB P w K mg clA fN exA) ["cell", "k", "more"] "_law_drawn" (defScope s_u_law_drawn) f (defBody s_u_law_drawn) 0 g_u_law_drawn := fun cdv A outer s H E hr => by
  have c := ctx_of (B := mkB P w K mg clA fN exA) (P := P) (w := w) (K := K) (mg := mg) (base := base) (outer := outer) (H := H) (E := E) ⟨rfl, rfl, rfl, rfl⟩ sc_u_law_drawn.nd hr
  exact (ds_cons (ds_set 2 c.nd (de2 (pe_op op_mod (de2 (pe_op op_addAll (de2 (pe_op op_mulAll (de_var 0) de_int) (p_mulI _)) (de2 (pe_op op_mulAll (de2 (pe_op op_addAll (de_var 1) de_int) (p_add c.bx.K)) de_int) (p_mulI _))) (p_add c.bx.K)) de_int) p_mod))
    (ds_cons (ds_set 2 c.nd (de2 (pe_op op_mod (de2 (pe_op op_mulAll (de_var 2) (de_var 2)) (p_mulI _)) de_int) p_mod))
    (ds_cons (ds_set 2 c.nd (de2 (pe_op op_mulAll (de2 (pe_op op_mulAll (de2 (pe_op op_addAll (de2 (pe_op op_mod (de_var 2) de_int) p_mod) de_int) (p_add c.bx.K)) (de2 (pe_op op_addAll (de2 (pe_op op_fdivW (de_var 2) de_int) p_fdiv) de_int) (p_add c.bx.K))) (p_mulI _)) (de_var 2)) (p_mulI _)))
    (ds_one (ds_ret (de2 (pe_op op_mod (de_var 2) de_int) p_mod))))))
abbrev s_u_law_word : Stmt := (top 59)
theorem sc_u_law_word : FnScope ["e", "flags", "some", "flag"] ["e"] (defScope s_u_law_word) := ⟨rfl, rfl, rfl, by decide +kernel, rfl, by decide +kernel, by decide +kernel⟩
def g_u_law_word (c0 : Nat) : DS :=
    (sSeq (sSet 1 (dLst (aCons (d1 (dVar 0) (kIsX (decide (c0 = 3)))) (aCons (d1 (dVar 0) (kIsX (decide (c0 = 1)))) (aCons (d1 (dVar 0) (kIsX (decide (c0 = 5)))) (aCons (d1 (dVar 0) (kIsX (decide (c0 = 0)))) aNil))))))
    (sSeq (sSet 1 (d2 (dVar 1) (dLst (aCons (d1 (dVar 0) (kIsX (decide (c0 = 2)))) (aCons (d1 (dVar 0) (kIsX (decide (c0 = 6)))) (aCons (d1 (dVar 0) (kIsX (decide (c0 = 7)))) (aCons (d1 (dVar 0) (kIsX (decide (c0 = 4)))) aNil))))) (rd2 addD)))
    (sSeq (sIf (Dn.tOr (tB (d2 (dA (aCons (dLc (iLstD (dVar 1)) (fName 3) tYesD (dA (aCons (dVar 3) aNil) (rdA1 intD)) [3]) aNil) (rdA1 sumD)) (dC (.int 1)) (rd2 neD))) (Dn.tNot (tB (d1 (dVar 0) (kIsX true)))))
    (sRet (dTup (aCons (dC (.str [114, 101, 102, 117, 115, 101, 100])) (aCons (dC (.str [111, 116, 104, 101, 114])) aNil))))
    sNil)
    (sSeq (sSet 2 (dLst (aCons (dC (.str [66, 97, 100, 67, 111, 117, 110, 116])) (aCons (dC (.str [66, 97, 100, 77, 111, 118, 101])) (aCons (dC (.str [66, 97, 100, 82, 101, 115, 117, 108, 116])) (aCons (dC (.str [66, 97, 100, 83, 116, 97, 110, 100])) (aCons (dC (.str [66, 97, 100, 84, 101, 120, 116])) (aCons (dC (.str [78, 111, 71, 97, 109, 101])) (aCons (dC (.str [78, 111, 116, 104, 105, 110, 103])) (aCons (dC (.str [79, 118, 101, 114])) aNil))))))))))
    (sRet (dTup (aCons (dC (.str [114, 101, 102, 117, 115, 101, 100])) (aCons (d2 (dVar 2) (dMt isLst kIndex (dVar 1) (aCons (dC (.bl true)) aNil)) kIx) aNil))))))))
def F_u_law_word (c0 : Nat) : List D → Ret := pureOf 4 (g_u_law_word c0)
theorem b_u_law_word (z_ValueError : mg "ValueError" = none) (z_int : mg "int" = none) (z_isinstance : mg "isinstance" = none) (z_sum : mg "sum" = none) (h_BadCount : ExcB (mkB P w K mg clA fN exA) "BadCount" 3) (h_BadMove : ExcB (mkB P w K mg clA fN exA) "BadMove" 1) (h_BadResult : ExcB (mkB P w K mg clA fN exA) "BadResult" 5) (h_BadStand : ExcB (mkB P w K mg clA fN exA) "BadStand" 0) (h_BadText : ExcB (mkB P w K mg clA fN exA) "BadText" 2) (h_NoGame : ExcB (mkB P w K mg clA fN exA) "NoGame" 6) (h_Nothing : ExcB (mkB P w K mg clA fN exA) "Nothing" 7) (h_Over : ExcB (mkB P w K mg clA fN exA) "Over" 4) (hE : ∀ c, c < 8 → ExcC K (exA c)) (hk : ∀ c i, c < 8 → i < 8 → PySem.W.kitOne K (.ref (exA c)) (.ref (exA i)) = some (decide (c = i))) (hv : ∀ c, c < 8 → PySem.W.kitOne K (.ref (exA c)) (.type "ValueError") = some true) (c0 : Nat) (hc0 : c0 < 8) (cdv : Value) (A : Around) (outer : List Env) (s : Shared) (H : Hp) (p : Addr × Obj) (h1 : L2H.Hot1 A p) (hz : Zc (.ref (exA c0)) none p.2) (hr : L2H.RoomH 0 (A.deeper (envOfC "_law_word" (defScope s_u_law_word) s.heap.objs.size f cdv))) :
    PSs (L2H.cxH C8.CX0 P w K mg base ["e", "flags", "some", "flag"] "_law_word" (defScope s_u_law_word) f cdv A outer s H C8.E0 p) (defBody s_u_law_word) (denS (setX (mkB P w K mg clA fN exA) p.1) WF (g_u_law_word c0)) := by
  have c := hot_of (B := setX (mkB P w K mg clA fN exA) p.1) (P := P) (w := w) (K := K) (mg := mg) (base := base) (outer := outer) (H := H) (E := C8.E0) ⟨rfl, rfl, rfl, rfl⟩ sc_u_law_word.nd h1 hz hr rfl
  exact (ds_cons (ds_set 1 c.nd (de_lst (a_cons (de_isX c.hp (hE c0 hc0) c.hz c.hf c.xv z_isinstance (by decide +kernel) (de_var 0) (pe_glob (v := .ref (exA 3)) (u := .ref (exA 3)) rfl h_BadCount.g rfl) (fun _ h => h) (hk c0 3 hc0 (by omega))) (a_cons (de_isX c.hp (hE c0 hc0) c.hz c.hf c.xv z_isinstance (by decide +kernel) (de_var 0) (pe_glob (v := .ref (exA 1)) (u := .ref (exA 1)) rfl h_BadMove.g rfl) (fun _ h => h) (hk c0 1 hc0 (by omega))) (a_cons (de_isX c.hp (hE c0 hc0) c.hz c.hf c.xv z_isinstance (by decide +kernel) (de_var 0) (pe_glob (v := .ref (exA 5)) (u := .ref (exA 5)) rfl h_BadResult.g rfl) (fun _ h => h) (hk c0 5 hc0 (by omega))) (a_cons (de_isX c.hp (hE c0 hc0) c.hz c.hf c.xv z_isinstance (by decide +kernel) (de_var 0) (pe_glob (v := .ref (exA 0)) (u := .ref (exA 0)) rfl h_BadStand.g rfl) (fun _ h => h) (hk c0 0 hc0 (by omega))) a_nil))))))
    (ds_cons (ds_set 1 c.nd (de2 (pe_op op_addAll (de_var 1) (de_lst (a_cons (de_isX c.hp (hE c0 hc0) c.hz c.hf c.xv z_isinstance (by decide +kernel) (de_var 0) (pe_glob (v := .ref (exA 2)) (u := .ref (exA 2)) rfl h_BadText.g rfl) (fun _ h => h) (hk c0 2 hc0 (by omega))) (a_cons (de_isX c.hp (hE c0 hc0) c.hz c.hf c.xv z_isinstance (by decide +kernel) (de_var 0) (pe_glob (v := .ref (exA 6)) (u := .ref (exA 6)) rfl h_NoGame.g rfl) (fun _ h => h) (hk c0 6 hc0 (by omega))) (a_cons (de_isX c.hp (hE c0 hc0) c.hz c.hf c.xv z_isinstance (by decide +kernel) (de_var 0) (pe_glob (v := .ref (exA 7)) (u := .ref (exA 7)) rfl h_Nothing.g rfl) (fun _ h => h) (hk c0 7 hc0 (by omega))) (a_cons (de_isX c.hp (hE c0 hc0) c.hz c.hf c.xv z_isinstance (by decide +kernel) (de_var 0) (pe_glob (v := .ref (exA 4)) (u := .ref (exA 4)) rfl h_Over.g rfl) (fun _ h => h) (hk c0 4 hc0 (by omega))) a_nil)))))) (p_add c.bx.K)))
    (ds_cons (ds_if (PW.pt (dw_or (dt2 (pt_cmpR (op_neD c.hu64) (de_cB (cr_sumH c.hot) p_sum rfl z_sum (by decide +kernel) (a_cons (de_lcH fin_D [("flag", 3)] c.bx c.hot c.nd (de_var 1) (blkOk_by (N := ["e", "flags", "some", "flag"]) (sc := defScope s_u_law_word) (by decide +kernel)) (fun _ _ _ _ _ => (df_name 3 c.nd)) (fun _ _ _ _ _ => dts_nil) (fun _ _ _ _ _ => (de_cT call_int1 p_int1 rfl z_int (by decide +kernel) (a_cons (de_var 3) a_nil)))) a_nil)) de_int (nomark _)) (p_ne c.bx)) (dw_or1 (dt_not (dt_of (pt_val (de_isX c.hp (hE c0 hc0) c.hz c.hf c.xv z_isinstance (by decide +kernel) (de_var 0) (pe_bltn (v := .ty "ValueError") (u := .type "ValueError") rfl z_ValueError (by decide +kernel) rfl) (fun _ h => h) (hv c0 hc0))) fun _ _ _ q => q)))))
    (ds_one (ds_ret (de_tup (a_cons (de_str [114, 101, 102, 117, 115, 101, 100]) (a_cons (de_str [111, 116, 104, 101, 114]) a_nil)))))
    ds_nil)
    (ds_cons (ds_set 2 c.nd (de_lst (a_cons (de_str [66, 97, 100, 67, 111, 117, 110, 116]) (a_cons (de_str [66, 97, 100, 77, 111, 118, 101]) (a_cons (de_str [66, 97, 100, 82, 101, 115, 117, 108, 116]) (a_cons (de_str [66, 97, 100, 83, 116, 97, 110, 100]) (a_cons (de_str [66, 97, 100, 84, 101, 120, 116]) (a_cons (de_str [78, 111, 71, 97, 109, 101]) (a_cons (de_str [78, 111, 116, 104, 105, 110, 103]) (a_cons (de_str [79, 118, 101, 114]) a_nil))))))))))
    (ds_one (ds_ret (de_tup (a_cons (de_str [114, 101, 102, 117, 115, 101, 100]) (a_cons (de2 (pe_ix (ix_C c.bx c.hu) (de_var 2) (de_mt PySem.F.plainAttrs_list PySem.F.slot_list_index PySem.F.type_list_index (mt_indexD c.hu65) tp_lst (p_index c.bx) (de_var 1) (a_cons de_bl a_nil)) (fun _ _ => rfl)) (p_ixC c.bx)) a_nil)))))))))
abbrev s_u_law_bad_texts : Stmt := (top 61)
theorem sc_u_law_bad_texts : FnScope ["stand", "word", "side", "other", "some"] ["stand", "word", "side"] (defScope s_u_law_bad_texts) := ⟨rfl, rfl, rfl, by decide +kernel, rfl, by decide +kernel, by decide +kernel⟩
def g_u_law_bad_texts : DS :=
    (sSeq (sSet 3 (d2 (dC (.str [98, 119])) (dMt isStr (rdM1 sidxD) (dC (.str [119, 98])) (aCons (dVar 2) aNil)) kIx))
    (sSeq (sSet 4 (dLst (aCons (dC (.str [32])) (aCons (dVar 1) (aCons (d2 (dVar 1) (dC (.str [58])) (rd2 addD)) (aCons (dC (.str [58, 49])) (aCons (d2 (dVar 1) (dC (.str [58, 48, 49])) (rd2 addD)) (aCons (d2 (dVar 1) (dC (.str [58, 45, 49])) (rd2 addD)) (aCons (d2 (dVar 1) (dC (.str [58, 55])) (rd2 addD)) (aCons (d2 (dVar 1) (dC (.str [58, 49, 32])) (rd2 addD)) (aCons (d2 (d2 (dC (.str [32])) (dVar 1) (rd2 addD)) (dC (.str [58, 49])) (rd2 addD)) aNil)))))))))))
    (sSeq (sSet 4 (d2 (dVar 4) (dLst (aCons (d2 (dC (.str [103, 105, 118, 101, 110, 61])) (dVar 3) (rd2 addD)) (aCons (d2 (dC (.str [108, 97, 116, 101, 61])) (dVar 3) (rd2 addD)) (aCons (dC (.str [103, 105, 118, 101, 110])) (aCons (dC (.str [108, 97, 116, 101])) (aCons (dC (.str [103, 105, 118, 101, 110, 61, 120])) (aCons (d2 (d2 (d2 (d2 (dC (.str [103, 105, 118, 101, 110, 61])) (dVar 2) (rd2 addD)) (dC (.str [32])) (rd2 addD)) (dVar 1) (rd2 addD)) (dC (.str [58, 49])) (rd2 addD)) aNil))))))) (rd2 addD)))
    (sSeq (sSet 4 (d2 (dVar 4) (dLst (aCons (d2 (d2 (d2 (dC (.str [108, 97, 116, 101, 61])) (dVar 2) (rd2 addD)) (dC (.str [32, 103, 105, 118, 101, 110, 61])) (rd2 addD)) (dVar 2) (rd2 addD)) (aCons (d2 (d2 (dVar 1) (dC (.str [58, 49, 32, 32, 103, 105, 118, 101, 110, 61])) (rd2 addD)) (dVar 3) (rd2 addD)) aNil))) (rd2 addD)))
    (sRet (d2 (dVar 4) (dLst (aCons (d2 (d2 (dVar 1) (dC (.str [58, 49, 32, 103, 105, 118, 101, 110, 61])) (rd2 addD)) (dVar 2) (rd2 addD)) (aCons (d2 (dVar 1) (dC (.str [58, 49, 58, 49])) (rd2 addD)) aNil))) (rd2 addD)))))))
def F_u_law_bad_texts : List D → Ret := pureOf 5 g_u_law_bad_texts
theorem b_u_law_bad_texts  : Body P w K mg base (mkB P w K mg clA fN exA) ["stand", "word", "side", "other", "some"] "_law_bad_texts" (defScope s_u_law_bad_texts) f (defBody s_u_law_bad_texts) 0 g_u_law_bad_texts := fun cdv A outer s H E hr => by
  have c := ctx_of (B := mkB P w K mg clA fN exA) (P := P) (w := w) (K := K) (mg := mg) (base := base) (outer := outer) (H := H) (E := E) ⟨rfl, rfl, rfl, rfl⟩ sc_u_law_bad_texts.nd hr
  exact (ds_cons (ds_set 3 c.nd (de2 (pe_ix (ix_C c.bx c.hu) (de_str [98, 119]) (de_mt PySem.F.plainAttrs_str PySem.F.slot_str_index PySem.F.type_str_index mt_sindex tp_str p_sidx (de_str [119, 98]) (a_cons (de_var 2) a_nil)) (fun _ _ => rfl)) (p_ixC c.bx)))
    (ds_cons (ds_set 4 c.nd (de_lst (a_cons (de_str [32]) (a_cons (de_var 1) (a_cons (de2 (pe_op op_addAll (de_var 1) (de_str [58])) (p_add c.bx.K)) (a_cons (de_str [58, 49]) (a_cons (de2 (pe_op op_addAll (de_var 1) (de_str [58, 48, 49])) (p_add c.bx.K)) (a_cons (de2 (pe_op op_addAll (de_var 1) (de_str [58, 45, 49])) (p_add c.bx.K)) (a_cons (de2 (pe_op op_addAll (de_var 1) (de_str [58, 55])) (p_add c.bx.K)) (a_cons (de2 (pe_op op_addAll (de_var 1) (de_str [58, 49, 32])) (p_add c.bx.K)) (a_cons (de2 (pe_op op_addAll (de2 (pe_op op_addAll (de_str [32]) (de_var 1)) (p_add c.bx.K)) (de_str [58, 49])) (p_add c.bx.K)) a_nil)))))))))))
    (ds_cons (ds_set 4 c.nd (de2 (pe_op op_addAll (de_var 4) (de_lst (a_cons (de2 (pe_op op_addAll (de_str [103, 105, 118, 101, 110, 61]) (de_var 3)) (p_add c.bx.K)) (a_cons (de2 (pe_op op_addAll (de_str [108, 97, 116, 101, 61]) (de_var 3)) (p_add c.bx.K)) (a_cons (de_str [103, 105, 118, 101, 110]) (a_cons (de_str [108, 97, 116, 101]) (a_cons (de_str [103, 105, 118, 101, 110, 61, 120]) (a_cons (de2 (pe_op op_addAll (de2 (pe_op op_addAll (de2 (pe_op op_addAll (de2 (pe_op op_addAll (de_str [103, 105, 118, 101, 110, 61]) (de_var 2)) (p_add c.bx.K)) (de_str [32])) (p_add c.bx.K)) (de_var 1)) (p_add c.bx.K)) (de_str [58, 49])) (p_add c.bx.K)) a_nil)))))))) (p_add c.bx.K)))
    (ds_cons (ds_set 4 c.nd (de2 (pe_op op_addAll (de_var 4) (de_lst (a_cons (de2 (pe_op op_addAll (de2 (pe_op op_addAll (de2 (pe_op op_addAll (de_str [108, 97, 116, 101, 61]) (de_var 2)) (p_add c.bx.K)) (de_str [32, 103, 105, 118, 101, 110, 61])) (p_add c.bx.K)) (de_var 2)) (p_add c.bx.K)) (a_cons (de2 (pe_op op_addAll (de2 (pe_op op_addAll (de_var 1) (de_str [58, 49, 32, 32, 103, 105, 118, 101, 110, 61])) (p_add c.bx.K)) (de_var 3)) (p_add c.bx.K)) a_nil)))) (p_add c.bx.K)))
    (ds_one (ds_ret (de2 (pe_op op_addAll (de_var 4) (de_lst (a_cons (de2 (pe_op op_addAll (de2 (pe_op op_addAll (de_var 1) (de_str [58, 49, 32, 103, 105, 118, 101, 110, 61])) (p_add c.bx.K)) (de_var 2)) (p_add c.bx.K)) (a_cons (de2 (pe_op op_addAll (de_var 1) (de_str [58, 49, 58, 49])) (p_add c.bx.K)) a_nil)))) (p_add c.bx.K))))))))
abbrev lawB (P : Program) (w : World) (K : PySem.W.Frag) (mg : Str → Option Value) (clA : Nat → Addr) (exA : Nat → Addr) (T : List (Addr × Str)) : Bs := setJ (mkB P w K mg clA fN exA) (JP.tabs T)
abbrev s_law : Stmt := (top 62)
theorem sc_law : FnScope ["script", "k", "more", "stand", "move", "bad", "told", "none", "match", "word", "text"] ["script"] (defScope s_law) := ⟨rfl, rfl, rfl, by decide +kernel, rfl, by decide +kernel, by decide +kernel⟩
def g_law : DS :=
    (sSeq (sFor (iRange (aCons (dA (aCons (dC (.int 1)) (aCons (dA (aCons (dC (.int 4)) (aCons (dA (aCons (dVar 0) aNil) kLen) aNil)) (rdA2 min2D)) aNil)) (rdA2 max2D)) aNil)) (nName 1)
    (sGc (sSeq (sSet 2 (dCall F_u_law_drawn (aCons (dCall F_u_law_cell (aCons (dVar 0) (aCons (dVar 1) aNil))) (aCons (dVar 1) aNil))))
    (sSeq (sSet 3 (dCall F_begin (aCons (d2 (dC (.int 4)) (d2 (dVar 2) (dC (.int 4)) (rd2 modD)) (rd2 addD)) (aCons (d2 (dC (.int 4)) (d2 (d2 (dVar 2) (dC (.int 8)) (rd2 fdivD)) (dC (.int 4)) (rd2 modD)) (rd2 addD)) (aCons (dC (.int 1)) aNil)))))
    (sSeq (sSet 4 (d2 (dCall F_moves_moves (aCons (dVar 3) aNil)) (d2 (d2 (dVar 2) (dC (.int 64)) (rd2 fdivD)) (dA (aCons (dCall F_moves_moves (aCons (dVar 3) aNil)) aNil) kLen) (rd2 modD)) kIx))
    (sSeq (sSet 5 (d2 (dLst (aCons (dC .non) (aCons (d2 (dVar 3) (dC (.int 0)) kIx) (aCons (dTup (aCons (d2 (dVar 3) (dC (.int 0)) kIx) (aCons (dC (.str [120])) aNil))) aNil)))) (d2 (d2 (dVar 2) (dC (.int 1024)) (rd2 fdivD)) (dC (.int 3)) (rd2 modD)) kIx))
    (sSeq (sSet 6 (cLst (aCons (dTold 8 F_u_law_word (dNew 2 4 M_Match_init (aCons (dVar 5) (aCons (dC .non) (aCons (dC .non) aNil))))) aNil)))
    (sSeq (sExpr (dMt isLst kApp (dVar 6) (aCons (dTold 8 F_u_law_word (dCallM M_read_match (aCons (dVar 5) (aCons (dC .non) (aCons (dC .non) (aCons (dC .non) aNil)))))) aNil)))
    (sSeq (sIf (tB (d2 (dVar 6) (d2 (dLst (aCons (dTup (aCons (dC (.str [114, 101, 102, 117, 115, 101, 100])) (aCons (dC (.str [66, 97, 100, 83, 116, 97, 110, 100])) aNil))) aNil)) (dC (.int 2)) (rd2 repD)) (rd2 neD)))
    (sRet (dC (.bl false)))
    sNil)
    (sSeq (sIf (tB (d2 (dTold 8 F_u_law_word (dNew 2 4 M_Match_init (aCons (dVar 3) (aCons (d2 (dLst (aCons (dC (.int 0)) (aCons (dC (.int 101)) (aCons (dC .non) (aCons (dC (.bl true)) aNil))))) (d2 (d2 (dVar 2) (dC (.int 4096)) (rd2 fdivD)) (dC (.int 4)) (rd2 modD)) kIx) (aCons (dC (.int 5)) aNil))))) (dTup (aCons (dC (.str [114, 101, 102, 117, 115, 101, 100])) (aCons (dC (.str [66, 97, 100, 67, 111, 117, 110, 116])) aNil))) (rd2 neD)))
    (sRet (dC (.bl false)))
    sNil)
    (sSeq (sFor (iSeq (dLst (aCons (dC (.int 0)) (aCons (dC (.int 1001)) (aCons (d1 (dC (.int 1)) (rd1 negD)) (aCons (dC .non) (aCons (dC (.bl true)) (aCons (dC (.str [53])) aNil)))))))) (nName 7)
    (sGc (sSeq (sSet 6 (cLst (aCons (dTold 8 F_u_law_word (dNew 2 4 M_Match_init (aCons (dVar 3) (aCons (dC (.int 5)) (aCons (dVar 7) aNil))))) aNil)))
    (sSeq (sExpr (dMt isLst kApp (dVar 6) (aCons (dTold 8 F_u_law_word (dCallM M_read_match (aCons (dVar 3) (aCons (dC (.int 5)) (aCons (dVar 7) (aCons (dC (.str [])) aNil)))))) aNil)))
    (sIf (tB (d2 (dVar 6) (d2 (dLst (aCons (dTup (aCons (dC (.str [114, 101, 102, 117, 115, 101, 100])) (aCons (dC (.str [66, 97, 100, 67, 111, 117, 110, 116])) aNil))) aNil)) (dC (.int 2)) (rd2 repD)) (rd2 neD)))
    (sRet (dC (.bl false)))
    sNil)))))
    (sSeq (sSet 8 (dNew 2 4 M_Match_init (aCons (dVar 3) (aCons (dC (.int 5)) (aCons (dC (.int 6)) aNil)))))
    (sSeq (sFor (iSeq (dLst (aCons (d1 (dC (.int 1)) (rd1 negD)) (aCons (dC (.int 1001)) (aCons (dC .non) (aCons (dC (.bl true)) (aCons (dC (.str [49])) aNil))))))) (nName 7)
    (sGc (sIf (tB (d2 (dTold 8 F_u_law_word (dMeth M_Match_play 2 (dVar 8) (aCons (dC .non) (aCons (dVar 7) aNil)))) (dTup (aCons (dC (.str [114, 101, 102, 117, 115, 101, 100])) (aCons (dC (.str [66, 97, 100, 67, 111, 117, 110, 116])) aNil))) (rd2 neD)))
    (sRet (dC (.bl false)))
    sNil)))
    (sSeq (sFor (iSeq (dLst (aCons (dC .non) (aCons (dTup aNil) (aCons (dTup (aCons (dTup (aCons (dC (.int 0)) (aCons (dC (.int 1)) aNil))) aNil)) (aCons (d1 (dVar 4) (rd1 rev3D)) (aCons (dA (aCons (dVar 4) aNil) (rdA1 lstOfD)) aNil))))))) (nName 7)
    (sGc (sSeq (sSet 6 (cLst (aCons (dTold 8 F_u_law_word (dMeth M_Match_play 2 (dVar 8) (aCons (dVar 7) (aCons (dC (.int 1)) aNil)))) aNil)))
    (sSeq (sExpr (dMt isLst kApp (dVar 6) (aCons (dTold 8 F_u_law_word (dMeth M_Match_play 2 (dVar 8) (aCons (dVar 7) (aCons (dC (.int 7)) aNil)))) aNil)))
    (sIf (tB (d2 (dVar 6) (d2 (dLst (aCons (dTup (aCons (dC (.str [114, 101, 102, 117, 115, 101, 100])) (aCons (dC (.str [66, 97, 100, 77, 111, 118, 101])) aNil))) aNil)) (dC (.int 2)) (rd2 repD)) (rd2 neD)))
    (sRet (dC (.bl false)))
    sNil)))))
    (sSeq (sIf (tB (d2 (dTup (aCons (dMeth M_Match_state 2 (dVar 8) aNil) (aCons (dMeth M_Match_left 2 (dVar 8) aNil) (aCons (dMeth M_Match_moves 2 (dVar 8) aNil) aNil)))) (dTup (aCons (dC (.str [111, 112, 101, 110])) (aCons (dTup (aCons (dC (.int 6)) (aCons (dC (.int 6)) aNil))) (aCons (dLst aNil) aNil)))) (rd2 neD)))
    (sRet (dC (.bl false)))
    sNil)
    (sSeq (sSet 9 (dCall F_written_move (aCons (dVar 3) (aCons (dVar 4) aNil))))
    (sSeq (sFor (iSeq (dCall F_u_law_bad_texts (aCons (dVar 3) (aCons (dVar 9) (aCons (d2 (dVar 3) (dC (.int 1)) kIx) aNil))))) (nName 10)
    (sGc (sIf (tB (d2 (dTold 8 F_u_law_word (dCallM M_read_match (aCons (dVar 3) (aCons (dC (.int 5)) (aCons (dC (.int 6)) (aCons (dVar 10) aNil)))))) (dTup (aCons (dC (.str [114, 101, 102, 117, 115, 101, 100])) (aCons (dC (.str [66, 97, 100, 84, 101, 120, 116])) aNil))) (rd2 neD)))
    (sRet (dC (.bl false)))
    sNil)))
    (sSeq (sIf (tB (d2 (dTold 8 F_u_law_word (dCallM M_read_match (aCons (dVar 3) (aCons (dC (.int 5)) (aCons (dC (.int 1000)) (aCons (d2 (dC (.str [108, 97, 116, 101, 61])) (d2 (dVar 3) (dC (.int 1)) kIx) (rd2 addD)) aNil)))))) (dTup (aCons (dC (.str [114, 101, 102, 117, 115, 101, 100])) (aCons (dC (.str [66, 97, 100, 84, 101, 120, 116])) aNil))) (rd2 neD)))
    (sRet (dC (.bl false)))
    sNil)
    (sFor (iSeq (dLst (aCons (dC (.str [])) (aCons (d2 (dVar 9) (dC (.str [58, 54])) (rd2 addD)) (aCons (d2 (dC (.str [108, 97, 116, 101, 61])) (d2 (dVar 3) (dC (.int 1)) kIx) (rd2 addD)) (aCons (d2 (dC (.str [103, 105, 118, 101, 110, 61])) (d2 (dVar 3) (dC (.int 1)) kIx) (rd2 addD)) aNil)))))) (nName 10)
    (sGc (sIf (tB (d2 (dCallM M_written_match (aCons (dCallM M_read_match (aCons (dVar 3) (aCons (dC (.int 5)) (aCons (dC (.int 6)) (aCons (dVar 10) aNil))))) aNil)) (dVar 10) (rd2 neD)))
    (sRet (dC (.bl false)))
    sNil)))))))))))))))))))))
    (sRet (dC (.bl true))))
theorem b_law {T : List (Addr × Str)} {cA PA : Addr} (z_len : mg "len" = none) (z_list : mg "list" = none) (z_max : mg "max" = none) (z_min : mg "min" = none) (z_range : mg "range" = none) (C_Match : ClB (lawB P w K mg clA exA T) 2 4) (h_u_law_bad_texts : FnB P w K mg base 1 "_law_bad_texts" ["stand", "word", "side"] (spP (lawB P w K mg clA exA T) 3 F_u_law_bad_texts)) (h_u_law_cell : FnB P w K mg base 1 "_law_cell" ["script", "k"] (spP (lawB P w K mg clA exA T) 2 F_u_law_cell)) (h_u_law_drawn : FnB P w K mg base 1 "_law_drawn" ["cell", "k"] (spP (lawB P w K mg clA exA T) 2 F_u_law_drawn)) (h_begin : FnB P w K mg base 2 "begin" ["height", "width", "filled"] (spP (lawB P w K mg clA exA T) 3 F_begin)) (h_moves_moves : FnB P w K mg base 18 "moves_moves" ["stand"] (spP (lawB P w K mg clA exA T) 1 F_moves_moves)) (h_written_move : FnB P w K mg base 19 "written_move" ["stand", "move"] (spP (lawB P w K mg clA exA T) 2 F_written_move)) (hm_read_match : FnB P w K mg base 24 "read_match" ["stand", "bound", "ticks", "text"] (spM (lawB P w K mg clA exA T) 4 M_read_match)) (hm_written_match : FnB P w K mg base 20 "written_match" ["match"] (spM (lawB P w K mg clA exA T) 1 M_written_match)) (h_Match_left : MtB P w K mg base 1 (clA 2) "left" ["self"] (spM (lawB P w K mg clA exA T) 1 M_Match_left)) (h_Match_moves : MtB P w K mg base 2 (clA 2) "moves" ["self"] (spM (lawB P w K mg clA exA T) 1 M_Match_moves)) (h_Match_play : MtB P w K mg base 22 (clA 2) "play" ["self", "move", "spent"] (spM (lawB P w K mg clA exA T) 3 M_Match_play)) (h_Match_state : MtB P w K mg base 20 (clA 2) "state" ["self"] (spM (lawB P w K mg clA exA T) 1 M_Match_state)) (h_Match_init : MkB P w K mg base 6 (clA 2) "Match" ["self", "stand", "bound", "ticks"] (spM (lawB P w K mg clA exA T) 4 M_Match_init)) (cdv : Value) (t_told : ∀ (A : Around) (outer : List Env) (s : Shared) (H : Hp) (E : XK), Room 26 (A.deeper (envOfC "law" (defScope s_law) s.heap.objs.size f cdv)) → ToldB (cxOf (L2N.CX P w) P w K mg base ["script", "k", "more", "stand", "move", "bad", "told", "none", "match", "word", "text"] "law" (defScope s_law) f cdv A outer s H E) (lawB P w K mg clA exA T) T "_law_told" 8 F_u_law_word 24 cA PA) (A : Around) (outer : List Env) (s : Shared) (H : Hp) (E : XK) (hr : Room 26 (A.deeper (envOfC "law" (defScope s_law) s.heap.objs.size f cdv))) :
    PSs (cxOf (L2N.CX P w) P w K mg base ["script", "k", "more", "stand", "move", "bad", "told", "none", "match", "word", "text"] "law" (defScope s_law) f cdv A outer s H E) (defBody s_law) (denS (lawB P w K mg clA exA T) (wE E) g_law) := by
  have c := ctx_of (B := (lawB P w K mg clA exA T)) (P := P) (w := w) (K := K) (mg := mg) (base := base) (outer := outer) (H := H) (E := E) ⟨rfl, rfl, rfl, rfl⟩ sc_law.nd hr
  exact (ds_cons (ds_for c.po c.calm (di_range1 rfl z_range (a_cons (de_cB (call_max2 c.calm) p_max2 rfl z_max (by decide +kernel) (a_cons de_int (a_cons (de_cB (call_min2 c.calm) p_min2 rfl z_min (by decide +kernel) (a_cons de_int (a_cons (de_cB call_lenA (p_len c.bx) rfl z_len (by decide +kernel) (a_cons (de_var 0) a_nil)) a_nil))) a_nil))) a_nil) (len_cons len_nil)) (dg_name 1 c.nd)
    (ds_gc (ds_cons (ds_set 2 c.nd (cb_call c h_u_law_drawn (by omega) (a_cons (cb_call c h_u_law_cell (by omega) (a_cons (de_var 0) (a_cons (de_var 1) a_nil)) (len_cons (len_cons len_nil))) (a_cons (de_var 1) a_nil)) (len_cons (len_cons len_nil))))
    (ds_cons (ds_set 3 c.nd (cb_call c h_begin (by omega) (a_cons (de2 (pe_op op_addAll de_int (de2 (pe_op op_mod (de_var 2) de_int) p_mod)) (p_add c.bx.K)) (a_cons (de2 (pe_op op_addAll de_int (de2 (pe_op op_mod (de2 (pe_op op_fdivW (de_var 2) de_int) p_fdiv) de_int) p_mod)) (p_add c.bx.K)) (a_cons de_int a_nil))) (len_cons (len_cons (len_cons len_nil)))))
    (ds_cons (ds_set 4 c.nd (de2 (pe_ix (ix_C c.bx c.hu) (cb_call c h_moves_moves (by omega) (a_cons (de_var 3) a_nil) (len_cons len_nil)) (de2 (pe_op op_mod (de2 (pe_op op_fdivW (de_var 2) de_int) p_fdiv) (de_cB call_lenA (p_len c.bx) rfl z_len (by decide +kernel) (a_cons (cb_call c h_moves_moves (by omega) (a_cons (de_var 3) a_nil) (len_cons len_nil)) a_nil))) p_mod) (fun _ _ => rfl)) (p_ixC c.bx)))
    (ds_cons (ds_set 5 c.nd (de2 (pe_ix (ix_C c.bx c.hu) (de_lst (a_cons de_non (a_cons (de2 (pe_ix (ix_C c.bx c.hu) (de_var 3) de_int (fun _ _ => rfl)) (p_ixC c.bx)) (a_cons (de_tup (a_cons (de2 (pe_ix (ix_C c.bx c.hu) (de_var 3) de_int (fun _ _ => rfl)) (p_ixC c.bx)) (a_cons (de_str [120]) a_nil))) a_nil)))) (de2 (pe_op op_mod (de2 (pe_op op_fdivW (de_var 2) de_int) p_fdiv) de_int) p_mod) (fun _ _ => rfl)) (p_ixC c.bx)))
    (ds_cons (ds_set 6 c.nd (de_lstC (a_cons (de_told c (t_told _ _ _ _ _ hr) (fun _ _ _ _ _ _ _ c => (cb_new c C_Match h_Match_init (by omega) (a_cons (de_var 5) (a_cons de_non (a_cons de_non a_nil))) (len_cons (len_cons (len_cons len_nil)))))) a_nil)))
    (ds_cons (ds_expr (de_mt PySem.F.plainAttrs_list PySem.F.slot_list_append PySem.F.type_list_append mt_append tp_lst p_app (de_var 6) (a_cons (de_told c (t_told _ _ _ _ _ hr) (fun _ _ _ _ _ _ _ c => (cb_callM c hm_read_match (by omega) (a_cons (de_var 5) (a_cons de_non (a_cons de_non (a_cons de_non a_nil)))) (len_cons (len_cons (len_cons (len_cons len_nil))))))) a_nil)))
    (ds_cons (ds_if (dt2 (pt_cmpR (op_neD c.hu64) (de_var 6) (de2 (pe_op op_repAll (de_lst (a_cons (de_tup (a_cons (de_str [114, 101, 102, 117, 115, 101, 100]) (a_cons (de_str [66, 97, 100, 83, 116, 97, 110, 100]) a_nil))) a_nil)) de_int) (p_rep c.bx)) (nomark _)) (p_ne c.bx))
    (ds_one (ds_ret de_bl))
    ds_nil)
    (ds_cons (ds_if (dt2 (pt_cmpR (op_neD c.hu64) (de_told c (t_told _ _ _ _ _ hr) (fun _ _ _ _ _ _ _ c => (cb_new c C_Match h_Match_init (by omega) (a_cons (de_var 3) (a_cons (de2 (pe_ix (ix_C c.bx c.hu) (de_lst (a_cons de_int (a_cons de_int (a_cons de_non (a_cons de_bl a_nil))))) (de2 (pe_op op_mod (de2 (pe_op op_fdivW (de_var 2) de_int) p_fdiv) de_int) p_mod) (fun _ _ => rfl)) (p_ixC c.bx)) (a_cons de_int a_nil))) (len_cons (len_cons (len_cons len_nil)))))) (de_tup (a_cons (de_str [114, 101, 102, 117, 115, 101, 100]) (a_cons (de_str [66, 97, 100, 67, 111, 117, 110, 116]) a_nil))) (nomark _)) (p_ne c.bx))
    (ds_one (ds_ret de_bl))
    ds_nil)
    (ds_cons (ds_for c.po c.calm (di_seq c.bx (de_lst (a_cons de_int (a_cons de_int (a_cons (de1 (pe_un un_neg de_int) p_neg) (a_cons de_non (a_cons de_bl (a_cons (de_str [53]) a_nil)))))))) (dg_name 7 c.nd)
    (ds_gc (ds_cons (ds_set 6 c.nd (de_lstC (a_cons (de_told c (t_told _ _ _ _ _ hr) (fun _ _ _ _ _ _ _ c => (cb_new c C_Match h_Match_init (by omega) (a_cons (de_var 3) (a_cons de_int (a_cons (de_var 7) a_nil))) (len_cons (len_cons (len_cons len_nil)))))) a_nil)))
    (ds_cons (ds_expr (de_mt PySem.F.plainAttrs_list PySem.F.slot_list_append PySem.F.type_list_append mt_append tp_lst p_app (de_var 6) (a_cons (de_told c (t_told _ _ _ _ _ hr) (fun _ _ _ _ _ _ _ c => (cb_callM c hm_read_match (by omega) (a_cons (de_var 3) (a_cons de_int (a_cons (de_var 7) (a_cons (de_str []) a_nil)))) (len_cons (len_cons (len_cons (len_cons len_nil))))))) a_nil)))
    (ds_one (ds_if (dt2 (pt_cmpR (op_neD c.hu64) (de_var 6) (de2 (pe_op op_repAll (de_lst (a_cons (de_tup (a_cons (de_str [114, 101, 102, 117, 115, 101, 100]) (a_cons (de_str [66, 97, 100, 67, 111, 117, 110, 116]) a_nil))) a_nil)) de_int) (p_rep c.bx)) (nomark _)) (p_ne c.bx))
    (ds_one (ds_ret de_bl))
    ds_nil))))))
    (ds_cons (ds_set 8 c.nd (cb_new c C_Match h_Match_init (by omega) (a_cons (de_var 3) (a_cons de_int (a_cons de_int a_nil))) (len_cons (len_cons (len_cons len_nil)))))
    (ds_cons (ds_for c.po c.calm (di_seq c.bx (de_lst (a_cons (de1 (pe_un un_neg de_int) p_neg) (a_cons de_int (a_cons de_non (a_cons de_bl (a_cons (de_str [49]) a_nil))))))) (dg_name 7 c.nd)
    (ds_gc (ds_one (ds_if (dt2 (pt_cmpR (op_neD c.hu64) (de_told c (t_told _ _ _ _ _ hr) (fun _ _ _ _ _ _ _ c => (cb_meth c C_Match h_Match_play (by omega) (de_var 8) (a_cons de_non (a_cons (de_var 7) a_nil)) (len_cons (len_cons len_nil)) no_Match_play))) (de_tup (a_cons (de_str [114, 101, 102, 117, 115, 101, 100]) (a_cons (de_str [66, 97, 100, 67, 111, 117, 110, 116]) a_nil))) (nomark _)) (p_ne c.bx))
    (ds_one (ds_ret de_bl))
    ds_nil))))
    (ds_cons (ds_for c.po c.calm (di_seq c.bx (de_lst (a_cons de_non (a_cons (de_tup a_nil) (a_cons (de_tup (a_cons (de_tup (a_cons de_int (a_cons de_int a_nil))) a_nil)) (a_cons (de_rev c.bx (de_var 4)) (a_cons (de_cT call_list_of (p_lstOf c.bx) rfl z_list (by decide +kernel) (a_cons (de_var 4) a_nil)) a_nil))))))) (dg_name 7 c.nd)
    (ds_gc (ds_cons (ds_set 6 c.nd (de_lstC (a_cons (de_told c (t_told _ _ _ _ _ hr) (fun _ _ _ _ _ _ _ c => (cb_meth c C_Match h_Match_play (by omega) (de_var 8) (a_cons (de_var 7) (a_cons de_int a_nil)) (len_cons (len_cons len_nil)) no_Match_play))) a_nil)))
    (ds_cons (ds_expr (de_mt PySem.F.plainAttrs_list PySem.F.slot_list_append PySem.F.type_list_append mt_append tp_lst p_app (de_var 6) (a_cons (de_told c (t_told _ _ _ _ _ hr) (fun _ _ _ _ _ _ _ c => (cb_meth c C_Match h_Match_play (by omega) (de_var 8) (a_cons (de_var 7) (a_cons de_int a_nil)) (len_cons (len_cons len_nil)) no_Match_play))) a_nil)))
    (ds_one (ds_if (dt2 (pt_cmpR (op_neD c.hu64) (de_var 6) (de2 (pe_op op_repAll (de_lst (a_cons (de_tup (a_cons (de_str [114, 101, 102, 117, 115, 101, 100]) (a_cons (de_str [66, 97, 100, 77, 111, 118, 101]) a_nil))) a_nil)) de_int) (p_rep c.bx)) (nomark _)) (p_ne c.bx))
    (ds_one (ds_ret de_bl))
    ds_nil))))))
    (ds_cons (ds_if (dt2 (pt_cmpR (op_neD c.hu64) (de_tup (a_cons (cb_meth0 c C_Match h_Match_state (by omega) (de_var 8) no_Match_state) (a_cons (cb_meth0 c C_Match h_Match_left (by omega) (de_var 8) no_Match_left) (a_cons (cb_meth0 c C_Match h_Match_moves (by omega) (de_var 8) no_Match_moves) a_nil)))) (de_tup (a_cons (de_str [111, 112, 101, 110]) (a_cons (de_tup (a_cons de_int (a_cons de_int a_nil))) (a_cons (de_lst a_nil) a_nil)))) (nomark _)) (p_ne c.bx))
    (ds_one (ds_ret de_bl))
    ds_nil)
    (ds_cons (ds_set 9 c.nd (cb_call c h_written_move (by omega) (a_cons (de_var 3) (a_cons (de_var 4) a_nil)) (len_cons (len_cons len_nil))))
    (ds_cons (ds_for c.po c.calm (di_seq c.bx (cb_call c h_u_law_bad_texts (by omega) (a_cons (de_var 3) (a_cons (de_var 9) (a_cons (de2 (pe_ix (ix_C c.bx c.hu) (de_var 3) de_int (fun _ _ => rfl)) (p_ixC c.bx)) a_nil))) (len_cons (len_cons (len_cons len_nil))))) (dg_name 10 c.nd)
    (ds_gc (ds_one (ds_if (dt2 (pt_cmpR (op_neD c.hu64) (de_told c (t_told _ _ _ _ _ hr) (fun _ _ _ _ _ _ _ c => (cb_callM c hm_read_match (by omega) (a_cons (de_var 3) (a_cons de_int (a_cons de_int (a_cons (de_var 10) a_nil)))) (len_cons (len_cons (len_cons (len_cons len_nil))))))) (de_tup (a_cons (de_str [114, 101, 102, 117, 115, 101, 100]) (a_cons (de_str [66, 97, 100, 84, 101, 120, 116]) a_nil))) (nomark _)) (p_ne c.bx))
    (ds_one (ds_ret de_bl))
    ds_nil))))
    (ds_cons (ds_if (dt2 (pt_cmpR (op_neD c.hu64) (de_told c (t_told _ _ _ _ _ hr) (fun _ _ _ _ _ _ _ c => (cb_callM c hm_read_match (by omega) (a_cons (de_var 3) (a_cons de_int (a_cons de_int (a_cons (de2 (pe_op op_addAll (de_str [108, 97, 116, 101, 61]) (de2 (pe_ix (ix_C c.bx c.hu) (de_var 3) de_int (fun _ _ => rfl)) (p_ixC c.bx))) (p_add c.bx.K)) a_nil)))) (len_cons (len_cons (len_cons (len_cons len_nil))))))) (de_tup (a_cons (de_str [114, 101, 102, 117, 115, 101, 100]) (a_cons (de_str [66, 97, 100, 84, 101, 120, 116]) a_nil))) (nomark _)) (p_ne c.bx))
    (ds_one (ds_ret de_bl))
    ds_nil)
    (ds_one (ds_for c.po c.calm (di_seq c.bx (de_lst (a_cons (de_str []) (a_cons (de2 (pe_op op_addAll (de_var 9) (de_str [58, 54])) (p_add c.bx.K)) (a_cons (de2 (pe_op op_addAll (de_str [108, 97, 116, 101, 61]) (de2 (pe_ix (ix_C c.bx c.hu) (de_var 3) de_int (fun _ _ => rfl)) (p_ixC c.bx))) (p_add c.bx.K)) (a_cons (de2 (pe_op op_addAll (de_str [103, 105, 118, 101, 110, 61]) (de2 (pe_ix (ix_C c.bx c.hu) (de_var 3) de_int (fun _ _ => rfl)) (p_ixC c.bx))) (p_add c.bx.K)) a_nil)))))) (dg_name 10 c.nd)
    (ds_gc (ds_one (ds_if (dt2 (pt_cmpR (op_neD c.hu64) (cb_callM c hm_written_match (by omega) (a_cons (cb_callM c hm_read_match (by omega) (a_cons (de_var 3) (a_cons de_int (a_cons de_int (a_cons (de_var 10) a_nil)))) (len_cons (len_cons (len_cons (len_cons len_nil))))) a_nil) (len_cons len_nil)) (de_var 10) (nomark _)) (p_ne c.bx))
    (ds_one (ds_ret de_bl))
    ds_nil)))))))))))))))))))))))
    (ds_one (ds_ret de_bl)))
abbrev s_Game_back : Stmt := (inClass (top 46) 4)
theorem no_Game_back : ("back" : Str) ∉ fN 1 := by decide +kernel
theorem sc_Game_back : FnScope ["self"] ["self"] (defScope s_Game_back) := ⟨rfl, rfl, rfl, by decide +kernel, rfl, by decide +kernel, by decide +kernel⟩
def g_Game_back : DS :=
    (sSeq (sIf (tB (d2 (dFld 1 2 (dVar 0)) (dLst aNil) (kEqL0 false)))
    (sRaise 4)
    sNil)
    (sSeq (sExpr (dMt isLst kPop (dFld 1 1 (dVar 0)) aNil))
    (sSeq (sExpr (dMt isLst kPop (dFld 1 3 (dVar 0)) aNil))
    (sRet (dMt isLst kPop (dFld 1 2 (dVar 0)) aNil)))))
def M_Game_back : List Val → Sto → Out Val := methOf 1 g_Game_back
theorem b_Game_back (C_Game : ClB (mkB P w K mg clA fN exA) 1 4) (h_Over : ExcB (mkB P w K mg clA fN exA) "Over" 4) : Body P w K mg base (mkB P w K mg clA fN exA) ["self"] "Game.back" (defScope s_Game_back) f (defBody s_Game_back) 0 g_Game_back := fun cdv A outer s H E hr => by
  have c := ctx_of (B := mkB P w K mg clA fN exA) (P := P) (w := w) (K := K) (mg := mg) (base := base) (outer := outer) (H := H) (E := E) ⟨rfl, rfl, rfl, rfl⟩ sc_Game_back.nd hr
  exact (ds_cons (ds_if (dt2 (pt_cmpR (op_eqL0 c.hu) (cb_fld c C_Game (i := 2) rfl (de_var 0)) (de_lst a_nil) (nomark _)) (p_eqL0 c.bx false))
    (ds_one (ds_raise c.calm c.tk (h_Over.to c.bx) rfl))
    ds_nil)
    (ds_cons (ds_expr (de_mt0 PySem.F.plainAttrs_list PySem.F.slot_list_pop PySem.F.type_list_pop mt_pop tp_lst p_pop (cb_fld c C_Game (i := 1) rfl (de_var 0))))
    (ds_cons (ds_expr (de_mt0 PySem.F.plainAttrs_list PySem.F.slot_list_pop PySem.F.type_list_pop mt_pop tp_lst p_pop (cb_fld c C_Game (i := 3) rfl (de_var 0))))
    (ds_one (ds_ret (de_mt0 PySem.F.plainAttrs_list PySem.F.slot_list_pop PySem.F.type_list_pop mt_pop tp_lst p_pop (cb_fld c C_Game (i := 2) rfl (de_var 0))))))))
abbrev s_Match_back : Stmt := (inClass (top 51) 8)
theorem no_Match_back : ("back" : Str) ∉ fN 2 := by decide +kernel
theorem sc_Match_back : FnScope ["self", "found"] ["self"] (defScope s_Match_back) := ⟨rfl, rfl, rfl, by decide +kernel, rfl, by decide +kernel, by decide +kernel⟩
def g_Match_back : DS :=
    (sSeq (sIf (tB (d2 (dFld 2 3 (dVar 0)) (dC (.str [])) (rd2 neD)))
    (sSeq (sSet 1 (dFld 2 3 (dVar 0)))
    (sSeq (sAsg (dC (.str [])) (nFld 2 3 0))
    (sRet (dVar 1))))
    sNil)
    (sSeq (sIf (tB (d2 (dFld 2 2 (dVar 0)) (dLst aNil) (kEqL0 false)))
    (sRaise 7)
    sNil)
    (sRet (dTup (aCons (dMeth M_Game_back 1 (dFld 2 0 (dVar 0)) aNil) (aCons (dMt isLst kPop (dFld 2 2 (dVar 0)) aNil) aNil))))))
def M_Match_back : List Val → Sto → Out Val := methOf 2 g_Match_back
theorem b_Match_back (C_Game : ClB (mkB P w K mg clA fN exA) 1 4) (C_Match : ClB (mkB P w K mg clA fN exA) 2 4) (h_Nothing : ExcB (mkB P w K mg clA fN exA) "Nothing" 7) (h_Game_back : MtB P w K mg base 1 (clA 1) "back" ["self"] (spM (mkB P w K mg clA fN exA) 1 M_Game_back)) : Body P w K mg base (mkB P w K mg clA fN exA) ["self", "found"] "Match.back" (defScope s_Match_back) f (defBody s_Match_back) 1 g_Match_back := fun cdv A outer s H E hr => by
  have c := ctx_of (B := mkB P w K mg clA fN exA) (P := P) (w := w) (K := K) (mg := mg) (base := base) (outer := outer) (H := H) (E := E) ⟨rfl, rfl, rfl, rfl⟩ sc_Match_back.nd hr
  exact (ds_cons (ds_if (dt2 (pt_cmpR (op_neD c.hu64) (cb_fld c C_Match (i := 3) rfl (de_var 0)) (de_str []) (nomark _)) (p_ne c.bx))
    (ds_cons (ds_set 1 c.nd (cb_fld c C_Match (i := 3) rfl (de_var 0)))
    (ds_cons (ds_asg (de_str []) (cg_fld (W := wE E) 0 c C_Match (i := 3) rfl (de_var 0)))
    (ds_one (ds_ret (de_var 1)))))
    ds_nil)
    (ds_cons (ds_if (dt2 (pt_cmpR (op_eqL0 c.hu) (cb_fld c C_Match (i := 2) rfl (de_var 0)) (de_lst a_nil) (nomark _)) (p_eqL0 c.bx false))
    (ds_one (ds_raise c.calm c.tk (h_Nothing.to c.bx) rfl))
    ds_nil)
    (ds_one (ds_ret (de_tup (a_cons (cb_meth0 c C_Game h_Game_back (by omega) (cb_fld c C_Match (i := 0) rfl (de_var 0)) no_Game_back) (a_cons (de_mt0 PySem.F.plainAttrs_list PySem.F.slot_list_pop PySem.F.type_list_pop mt_pop tp_lst p_pop (cb_fld c C_Match (i := 2) rfl (de_var 0))) a_nil)))))))
end
end Dn

set_option Elab.async false
set_option linter.all false
set_option maxRecDepth 100000
set_option maxHeartbeats 0
namespace Dn
open PySem PySem.Spec PyProof.Rows L2 PySem.W
abbrev s_u_wall : Stmt := (top 0)
def dd_u_wall : He.DefD := ⟨("_wall", none), "_wall", "_wall", defArgs s_u_wall, defBody s_u_wall, defScope s_u_wall, [], []⟩
def dd_need_stands : He.DefD := ⟨("need_stands", none), "need", "need", defArgs s_need_stands, defBody s_need_stands, defScope s_need_stands, [], []⟩
def dd_is_size : He.DefD := ⟨("is_size", none), "is_size", "is_size", defArgs s_is_size, defBody s_is_size, defScope s_is_size, [], []⟩
def dd_is_dark : He.DefD := ⟨("is_dark", none), "is_dark", "is_dark", defArgs s_is_dark, defBody s_is_dark, defScope s_is_dark, [], []⟩
def dd_last_row : He.DefD := ⟨("last_row", none), "last_row", "last_row", defArgs s_last_row, defBody s_last_row, defScope s_last_row, [], []⟩
def dd_need_square : He.DefD := ⟨("need_square", none), "need_square", "need_square", defArgs s_need_square, defBody s_need_square, defScope s_need_square, [], []⟩
def dd_need_stand : He.DefD := ⟨("need_stand", none), "need_stand", "need_stand", defArgs s_need_stand, defBody s_need_stand, defScope s_need_stand, [], []⟩
def dd_begin : He.DefD := ⟨("begin", none), "begin", "begin", defArgs s_begin, defBody s_begin, defScope s_begin, [], []⟩
def dd_ways_of : He.DefD := ⟨("ways_of", none), "ways_of", "ways_of", defArgs s_ways_of, defBody s_ways_of, defScope s_ways_of, [], []⟩
def dd_moves_moves : He.DefD := ⟨("moves_moves", none), "moves", "moves", defArgs s_moves_moves, defBody s_moves_moves, defScope s_moves_moves, [], []⟩
def dd_need_move : He.DefD := ⟨("need_move", none), "need_move", "need_move", defArgs s_need_move, defBody s_need_move, defScope s_need_move, [], []⟩
def dd_moved : He.DefD := ⟨("moved", none), "moved", "moved", defArgs s_moved, defBody s_moved, defScope s_moved, [], []⟩
def dd_need_notes : He.DefD := ⟨("need_notes", none), "need", "need", defArgs s_need_notes, defBody s_need_notes, defScope s_need_notes, [], []⟩
def dd_squares_of : He.DefD := ⟨("squares_of", none), "squares_of", "squares_of", defArgs s_squares_of, defBody s_squares_of, defScope s_squares_of, [], []⟩
def dd_full_text : He.DefD := ⟨("full_text", none), "full_text", "full_text", defArgs s_full_text, defBody s_full_text, defScope s_full_text, [], []⟩
def dd_sign_of : He.DefD := ⟨("sign_of", none), "sign_of", "sign_of", defArgs s_sign_of, defBody s_sign_of, defScope s_sign_of, [], []⟩
def dd_written_move : He.DefD := ⟨("written_move", none), "written_move", "written_move", defArgs s_written_move, defBody s_written_move, defScope s_written_move, [], []⟩
def dd_number_of : He.DefD := ⟨("number_of", none), "number_of", "number_of", defArgs s_number_of, defBody s_number_of, defScope s_number_of, [], []⟩
def dd_read_move : He.DefD := ⟨("read_move", none), "read_move", "read_move", defArgs s_read_move, defBody s_read_move, defScope s_read_move, [], []⟩
def dd_is_ticks : He.DefD := ⟨("is_ticks", none), "is_ticks", "is_ticks", defArgs s_is_ticks, defBody s_is_ticks, defScope s_is_ticks, [], []⟩
def dd_written_match : He.DefD := ⟨("written_match", none), "written_match", "written_match", defArgs s_written_match, defBody s_written_match, defScope s_written_match, [], []⟩
def dd_number_in : He.DefD := ⟨("number_in", none), "number_in", "number_in", defArgs s_number_in, defBody s_number_in, defScope s_number_in, [], []⟩
def dd_play_word : He.DefD := ⟨("play_word", none), "play_word", "play_word", defArgs s_play_word, defBody s_play_word, defScope s_play_word, [], []⟩
def dd_read_match : He.DefD := ⟨("read_match", none), "read_match", "read_match", defArgs s_read_match, defBody s_read_match, defScope s_read_match, [], []⟩
def dd_u_law_cell : He.DefD := ⟨("_law_cell", none), "_law_cell", "_law_cell", defArgs s_u_law_cell, defBody s_u_law_cell, defScope s_u_law_cell, [], []⟩
def dd_u_law_drawn : He.DefD := ⟨("_law_drawn", none), "_law_drawn", "_law_drawn", defArgs s_u_law_drawn, defBody s_u_law_drawn, defScope s_u_law_drawn, [], []⟩
def dd_u_law_word : He.DefD := ⟨("_law_word", none), "_law_word", "_law_word", defArgs s_u_law_word, defBody s_u_law_word, defScope s_u_law_word, [], []⟩
abbrev s_u_law_told : Stmt := (top 60)
def dd_u_law_told : He.DefD := ⟨("_law_told", none), "_law_told", "_law_told", defArgs s_u_law_told, defBody s_u_law_told, defScope s_u_law_told, [], []⟩
def dd_u_law_bad_texts : He.DefD := ⟨("_law_bad_texts", none), "_law_bad_texts", "_law_bad_texts", defArgs s_u_law_bad_texts, defBody s_u_law_bad_texts, defScope s_u_law_bad_texts, [], []⟩
def dd_law : He.DefD := ⟨("law", none), "law", "law", defArgs s_law, defBody s_law, defScope s_law, [], []⟩
def dd_Board_init : He.DefD := ⟨("Board", some "__init__"), "__init__", "Board.__init__", defArgs s_Board_init, defBody s_Board_init, defScope s_Board_init, [], []⟩
def dd_Board_sign : He.DefD := ⟨("Board", some "sign"), "sign", "Board.sign", defArgs s_Board_sign, defBody s_Board_sign, defScope s_Board_sign, [], []⟩
def dd_Board_own : He.DefD := ⟨("Board", some "own"), "own", "Board.own", defArgs s_Board_own, defBody s_Board_own, defScope s_Board_own, [], []⟩
def dd_Board_ray : He.DefD := ⟨("Board", some "ray"), "ray", "Board.ray", defArgs s_Board_ray, defBody s_Board_ray, defScope s_Board_ray, [], []⟩
def dd_Board_free : He.DefD := ⟨("Board", some "free"), "free", "Board.free", defArgs s_Board_free, defBody s_Board_free, defScope s_Board_free, [], []⟩
def dd_Board_quiet : He.DefD := ⟨("Board", some "quiet"), "quiet", "Board.quiet", defArgs s_Board_quiet, defBody s_Board_quiet, defScope s_Board_quiet, [], []⟩
def dd_Board_leaps : He.DefD := ⟨("Board", some "leaps"), "leaps", "Board.leaps", defArgs s_Board_leaps, defBody s_Board_leaps, defScope s_Board_leaps, [], []⟩
def dd_Board_chains : He.DefD := ⟨("Board", some "chains"), "chains", "Board.chains", defArgs s_Board_chains, defBody s_Board_chains, defScope s_Board_chains, [], []⟩
def dd_Board_takes : He.DefD := ⟨("Board", some "takes"), "takes", "Board.takes", defArgs s_Board_takes, defBody s_Board_takes, defScope s_Board_takes, [], []⟩
def dd_Game_init : He.DefD := ⟨("Game", some "__init__"), "__init__", "Game.__init__", defArgs s_Game_init, defBody s_Game_init, defScope s_Game_init, [], []⟩
def dd_Game_stand : He.DefD := ⟨("Game", some "stand"), "stand", "Game.stand", defArgs s_Game_stand, defBody s_Game_stand, defScope s_Game_stand, [], []⟩
def dd_Game_state : He.DefD := ⟨("Game", some "state"), "state", "Game.state", defArgs s_Game_state, defBody s_Game_state, defScope s_Game_state, [], []⟩
def dd_Game_play : He.DefD := ⟨("Game", some "play"), "play", "Game.play", defArgs s_Game_play, defBody s_Game_play, defScope s_Game_play, [], []⟩
def dd_Game_back : He.DefD := ⟨("Game", some "back"), "back", "Game.back", defArgs s_Game_back, defBody s_Game_back, defScope s_Game_back, [], []⟩
def dd_Game_moves : He.DefD := ⟨("Game", some "moves"), "moves", "Game.moves", defArgs s_Game_moves, defBody s_Game_moves, defScope s_Game_moves, [], []⟩
def dd_Match_init : He.DefD := ⟨("Match", some "__init__"), "__init__", "Match.__init__", defArgs s_Match_init, defBody s_Match_init, defScope s_Match_init, [], []⟩
def dd_Match_stand : He.DefD := ⟨("Match", some "stand"), "stand", "Match.stand", defArgs s_Match_stand, defBody s_Match_stand, defScope s_Match_stand, [], []⟩
def dd_Match_left : He.DefD := ⟨("Match", some "left"), "left", "Match.left", defArgs s_Match_left, defBody s_Match_left, defScope s_Match_left, [], []⟩
def dd_Match_own_left : He.DefD := ⟨("Match", some "own_left"), "own_left", "Match.own_left", defArgs s_Match_own_left, defBody s_Match_own_left, defScope s_Match_own_left, [], []⟩
def dd_Match_state : He.DefD := ⟨("Match", some "state"), "state", "Match.state", defArgs s_Match_state, defBody s_Match_state, defScope s_Match_state, [], []⟩
def dd_Match_need_open : He.DefD := ⟨("Match", some "need_open"), "need_open", "Match.need_open", defArgs s_Match_need_open, defBody s_Match_need_open, defScope s_Match_need_open, [], []⟩
def dd_Match_play : He.DefD := ⟨("Match", some "play"), "play", "Match.play", defArgs s_Match_play, defBody s_Match_play, defScope s_Match_play, [], []⟩
def dd_Match_give_up : He.DefD := ⟨("Match", some "give_up"), "give_up", "Match.give_up", defArgs s_Match_give_up, defBody s_Match_give_up, defScope s_Match_give_up, [], []⟩
def dd_Match_back : He.DefD := ⟨("Match", some "back"), "back", "Match.back", defArgs s_Match_back, defBody s_Match_back, defScope s_Match_back, [], []⟩
def dd_Match_moves : He.DefD := ⟨("Match", some "moves"), "moves", "Match.moves", defArgs s_Match_moves, defBody s_Match_moves, defScope s_Match_moves, [], []⟩
abbrev s_Match_winner : Stmt := (inClass (top 51) 10)
def dd_Match_winner : He.DefD := ⟨("Match", some "winner"), "winner", "Match.winner", defArgs s_Match_winner, defBody s_Match_winner, defScope s_Match_winner, [], []⟩
def fn : List He.DefD := [dd_u_wall, dd_need_stands, dd_is_size, dd_is_dark, dd_last_row, dd_need_square, dd_need_stand, dd_begin, dd_ways_of, dd_moves_moves, dd_need_move, dd_moved, dd_need_notes, dd_squares_of, dd_full_text, dd_sign_of, dd_written_move, dd_number_of, dd_read_move, dd_is_ticks, dd_written_match, dd_number_in, dd_play_word, dd_read_match, dd_u_law_cell, dd_u_law_drawn, dd_u_law_word, dd_u_law_told, dd_u_law_bad_texts, dd_law, dd_Board_init, dd_Board_sign, dd_Board_own, dd_Board_ray, dd_Board_free, dd_Board_quiet, dd_Board_leaps, dd_Board_chains, dd_Board_takes, dd_Game_init, dd_Game_stand, dd_Game_state, dd_Game_play, dd_Game_back, dd_Game_moves, dd_Match_init, dd_Match_stand, dd_Match_left, dd_Match_own_left, dd_Match_state, dd_Match_need_open, dd_Match_play, dd_Match_give_up, dd_Match_back, dd_Match_moves, dd_Match_winner]
def fa : List He.Fa := [.glo "_wall", .glo "need_stands", .glo "is_size", .glo "is_dark", .glo "last_row", .glo "need_square", .glo "need_stand", .glo "begin", .glo "ways_of", .glo "moves_moves", .glo "need_move", .glo "moved", .glo "need_notes", .glo "squares_of", .glo "full_text", .glo "sign_of", .glo "written_move", .glo "number_of", .glo "read_move", .glo "is_ticks", .glo "written_match", .glo "number_in", .glo "play_word", .glo "read_match", .glo "_law_cell", .glo "_law_drawn", .glo "_law_word", .glo "_law_told", .glo "_law_bad_texts", .glo "law", .glo "Board", .glo "Game", .glo "Match", .glo "BadStand", .glo "BadMove", .glo "BadText", .glo "BadCount", .glo "Over", .glo "BadResult", .glo "NoGame"] ++ ([.glo "Nothing", .glo "LeapError", .glo "OWN", .glo "OTHER", .free "ValueError", .free "all", .free "bool", .free "enumerate", .free "int", .free "isinstance", .free "len", .free "list", .free "max", .free "min", .free "range", .free "sorted", .free "str", .free "sum", .free "tuple", .free "zip", .cls "Board", .mkr "Board", .noat "Board" "side", .noat "Board" "height", .noat "Board" "width", .noat "Board" "signs", .meth "Board" "sign", .meth "Board" "own", .meth "Board" "ray", .meth "Board" "free", .meth "Board" "quiet", .meth "Board" "leaps", .meth "Board" "chains", .meth "Board" "takes", .cls "Game", .mkr "Game", .noat "Game" "bound", .noat "Game" "stands", .noat "Game" "played", .noat "Game" "quiets"] : List He.Fa) ++ ([.meth "Game" "stand", .meth "Game" "state", .meth "Game" "play", .meth "Game" "back", .meth "Game" "moves", .cls "Match", .mkr "Match", .noat "Match" "game", .noat "Match" "ticks", .noat "Match" "spent", .noat "Match" "ended", .meth "Match" "stand", .meth "Match" "left", .meth "Match" "own_left", .meth "Match" "state", .meth "Match" "need_open", .meth "Match" "play", .meth "Match" "give_up", .meth "Match" "back", .meth "Match" "moves", .meth "Match" "winner", .exc "BadStand", .exc "BadMove", .exc "BadText", .exc "BadCount", .exc "Over", .exc "BadResult", .exc "NoGame", .exc "Nothing"] : List He.Fa)
def exN : List Str := ["BadStand", "BadMove", "BadText", "BadCount", "Over", "BadResult", "NoGame", "Nothing"]
def ts : List He.Tab := [(fun K => He.ga K "OWN", ["w", "b"]), (fun K => He.ga K "OTHER", ["w", "b"])]
def ex (K : PySem.W.Frag) : Bool := gcB K "LEAST" c_LEAST && (gcB K "MOST" c_MOST && (gcB K "SIDES" c_SIDES && (gcB K "KINGS" c_KINGS && (gcB K "WAYS" c_WAYS && (gcB K "FIGURES_notes" c_FIGURES_notes && (gcB K "MOST_QUIET" c_MOST_QUIET && (gcB K "MOST_TICKS" c_MOST_TICKS && (gcB K "FIGURES_matches" c_FIGURES_matches && (kdB K "OWN" k_OWN && (kdB K "OTHER" k_OTHER && (errB K exN "LeapError" && (noLst K))))))))))))
def tf : List He.Defn := [("law", none)]
abbrev R : PySem.W.OpenRow := PySem.W.OpenLaw.row PySem.Challenge.rw_menleap_k92_matches_refused
abbrev hk : PySem.W.Hook := He.hookX 6 fa fn ts tf ex
def ob (s : PySem.W.SharedT) : He.AlX := He.obsX 6 fa fn ts tf ex (HandSHeadRun.getT s)
theorem ob_eq (s : PySem.W.SharedT) : ob s = hk.obs s.abs := He.obsX_eq (HandSHeadRun.getT_eq s)
def loose : List Str := (["_wall", "need_stands", "is_size", "is_dark", "last_row", "need_square", "need_stand", "begin", "ways_of", "moves_moves", "need_move", "moved"] : List Str) ++ (["need_notes", "squares_of", "full_text", "sign_of", "written_move", "number_of", "read_move", "is_ticks", "written_match", "number_in", "play_word", "read_match"] : List Str) ++ (["_law_cell", "_law_drawn", "_law_word", "_law_told", "_law_bad_texts", "need", "moves", "need", "LeapError", "BadStand", "BadMove", "BadText"] : List Str) ++ (["BadCount", "Over", "BadResult", "NoGame", "Nothing", "Board", "Game", "Match", "LEAST", "MOST", "SIDES", "OWN"] : List Str) ++ (["OTHER", "KINGS", "WAYS", "FIGURES_notes", "MOST_QUIET", "MOST_TICKS", "FIGURES_matches"] : List Str)
theorem run_false (w : World) : HandSHeadRun.RunEq R (PySem.W.view R.prog [62]) hk ob 9000 loose (w.withFollow "special-get-raises" false) := by
  intro os
  kernel_rfl
theorem run_true (w : World) : HandSHeadRun.RunEq R (PySem.W.view R.prog [62]) hk ob 9000 loose (w.withFollow "special-get-raises" true) := by
  intro os
  kernel_rfl
theorem run (w : World) : HandSHeadRun.RunEq R (PySem.W.view R.prog [62]) hk ob 9000 loose w := PySem.W.byRow2 "special-get-raises" (P := fun w => HandSHeadRun.RunEq R (PySem.W.view R.prog [62]) hk ob 9000 loose w) run_false run_true w
end Dn

set_option Elab.async false
set_option linter.all false
set_option maxRecDepth 100000
set_option maxHeartbeats 4000000
namespace Dn
open PySem PySem.Spec PyProof.Rows L2
abbrev clAK (K : PySem.W.Frag) : Nat → Addr
  | 0 => He.ga K "Board"
  | 1 => He.ga K "Game"
  | 2 => He.ga K "Match"
  | _ => 0
abbrev exAK (K : PySem.W.Frag) : Nat → Addr := exOf K exN
section
variable {P : Program} {w : World} {K : PySem.W.Frag} {mg : Str → Option Value} {base h : Heap}
theorem c_LEAST_of (X : K.In base) (G : base.Ns mainGlobals mg) (c : He.SaysX fa fn ts tf ex w h K) : GC (mkB P w K mg (clAK K) fN (exAK K)) "LEAST" c_LEAST := gc_of (B := (mkB P w K mg (clAK K) fN (exAK K))) X G ((He.ba c.more).1)
theorem c_MOST_of (X : K.In base) (G : base.Ns mainGlobals mg) (c : He.SaysX fa fn ts tf ex w h K) : GC (mkB P w K mg (clAK K) fN (exAK K)) "MOST" c_MOST := gc_of (B := (mkB P w K mg (clAK K) fN (exAK K))) X G ((He.ba (He.ba c.more).2).1)
theorem c_SIDES_of (X : K.In base) (G : base.Ns mainGlobals mg) (c : He.SaysX fa fn ts tf ex w h K) : GC (mkB P w K mg (clAK K) fN (exAK K)) "SIDES" c_SIDES := gc_of (B := (mkB P w K mg (clAK K) fN (exAK K))) X G ((He.ba (He.ba (He.ba c.more).2).2).1)
theorem k_OWN_of (X : K.In base) (G : base.Ns mainGlobals mg) (c : He.SaysX fa fn ts tf ex w h K) : KD (mkB P w K mg (clAK K) fN (exAK K)) w "OWN" k_OWN := kd_of (B := (mkB P w K mg (clAK K) fN (exAK K))) (He.glo_ok X G (c.t.d.fact 42 rfl)) (c.t.tab 0 rfl) ((He.ba (He.ba (He.ba (He.ba (He.ba (He.ba (He.ba (He.ba (He.ba (He.ba c.more).2).2).2).2).2).2).2).2).2).1)
theorem k_OTHER_of (X : K.In base) (G : base.Ns mainGlobals mg) (c : He.SaysX fa fn ts tf ex w h K) : KD (mkB P w K mg (clAK K) fN (exAK K)) w "OTHER" k_OTHER := kd_of (B := (mkB P w K mg (clAK K) fN (exAK K))) (He.glo_ok X G (c.t.d.fact 43 rfl)) (c.t.tab 1 rfl) ((He.ba (He.ba (He.ba (He.ba (He.ba (He.ba (He.ba (He.ba (He.ba (He.ba (He.ba c.more).2).2).2).2).2).2).2).2).2).2).1)
theorem c_KINGS_of (X : K.In base) (G : base.Ns mainGlobals mg) (c : He.SaysX fa fn ts tf ex w h K) : GC (mkB P w K mg (clAK K) fN (exAK K)) "KINGS" c_KINGS := gc_of (B := (mkB P w K mg (clAK K) fN (exAK K))) X G ((He.ba (He.ba (He.ba (He.ba c.more).2).2).2).1)
theorem c_WAYS_of (X : K.In base) (G : base.Ns mainGlobals mg) (c : He.SaysX fa fn ts tf ex w h K) : GC (mkB P w K mg (clAK K) fN (exAK K)) "WAYS" c_WAYS := gc_of (B := (mkB P w K mg (clAK K) fN (exAK K))) X G ((He.ba (He.ba (He.ba (He.ba (He.ba c.more).2).2).2).2).1)
theorem c_FIGURES_notes_of (X : K.In base) (G : base.Ns mainGlobals mg) (c : He.SaysX fa fn ts tf ex w h K) : GC (mkB P w K mg (clAK K) fN (exAK K)) "FIGURES_notes" c_FIGURES_notes := gc_of (B := (mkB P w K mg (clAK K) fN (exAK K))) X G ((He.ba (He.ba (He.ba (He.ba (He.ba (He.ba c.more).2).2).2).2).2).1)
theorem c_MOST_QUIET_of (X : K.In base) (G : base.Ns mainGlobals mg) (c : He.SaysX fa fn ts tf ex w h K) : GC (mkB P w K mg (clAK K) fN (exAK K)) "MOST_QUIET" c_MOST_QUIET := gc_of (B := (mkB P w K mg (clAK K) fN (exAK K))) X G ((He.ba (He.ba (He.ba (He.ba (He.ba (He.ba (He.ba c.more).2).2).2).2).2).2).1)
theorem c_MOST_TICKS_of (X : K.In base) (G : base.Ns mainGlobals mg) (c : He.SaysX fa fn ts tf ex w h K) : GC (mkB P w K mg (clAK K) fN (exAK K)) "MOST_TICKS" c_MOST_TICKS := gc_of (B := (mkB P w K mg (clAK K) fN (exAK K))) X G ((He.ba (He.ba (He.ba (He.ba (He.ba (He.ba (He.ba (He.ba c.more).2).2).2).2).2).2).2).1)
theorem c_FIGURES_matches_of (X : K.In base) (G : base.Ns mainGlobals mg) (c : He.SaysX fa fn ts tf ex w h K) : GC (mkB P w K mg (clAK K) fN (exAK K)) "FIGURES_matches" c_FIGURES_matches := gc_of (B := (mkB P w K mg (clAK K) fN (exAK K))) X G ((He.ba (He.ba (He.ba (He.ba (He.ba (He.ba (He.ba (He.ba (He.ba c.more).2).2).2).2).2).2).2).2).1)
theorem e_BadStand_of (X : K.In base) (G : base.Ns mainGlobals mg) (c : He.SaysX fa fn ts tf ex w h K) : ExcB (mkB P w K mg (clAK K) fN (exAK K)) "BadStand" 0 := excB_of (B := (mkB P w K mg (clAK K) fN (exAK K))) X G rfl (c.t.d.fact 33 rfl) (c.t.d.fact 101 rfl)
theorem e_BadMove_of (X : K.In base) (G : base.Ns mainGlobals mg) (c : He.SaysX fa fn ts tf ex w h K) : ExcB (mkB P w K mg (clAK K) fN (exAK K)) "BadMove" 1 := excB_of (B := (mkB P w K mg (clAK K) fN (exAK K))) X G rfl (c.t.d.fact 34 rfl) (c.t.d.fact 102 rfl)
theorem e_BadText_of (X : K.In base) (G : base.Ns mainGlobals mg) (c : He.SaysX fa fn ts tf ex w h K) : ExcB (mkB P w K mg (clAK K) fN (exAK K)) "BadText" 2 := excB_of (B := (mkB P w K mg (clAK K) fN (exAK K))) X G rfl (c.t.d.fact 35 rfl) (c.t.d.fact 103 rfl)
theorem e_BadCount_of (X : K.In base) (G : base.Ns mainGlobals mg) (c : He.SaysX fa fn ts tf ex w h K) : ExcB (mkB P w K mg (clAK K) fN (exAK K)) "BadCount" 3 := excB_of (B := (mkB P w K mg (clAK K) fN (exAK K))) X G rfl (c.t.d.fact 36 rfl) (c.t.d.fact 104 rfl)
theorem e_Over_of (X : K.In base) (G : base.Ns mainGlobals mg) (c : He.SaysX fa fn ts tf ex w h K) : ExcB (mkB P w K mg (clAK K) fN (exAK K)) "Over" 4 := excB_of (B := (mkB P w K mg (clAK K) fN (exAK K))) X G rfl (c.t.d.fact 37 rfl) (c.t.d.fact 105 rfl)
theorem e_BadResult_of (X : K.In base) (G : base.Ns mainGlobals mg) (c : He.SaysX fa fn ts tf ex w h K) : ExcB (mkB P w K mg (clAK K) fN (exAK K)) "BadResult" 5 := excB_of (B := (mkB P w K mg (clAK K) fN (exAK K))) X G rfl (c.t.d.fact 38 rfl) (c.t.d.fact 106 rfl)
theorem e_NoGame_of (X : K.In base) (G : base.Ns mainGlobals mg) (c : He.SaysX fa fn ts tf ex w h K) : ExcB (mkB P w K mg (clAK K) fN (exAK K)) "NoGame" 6 := excB_of (B := (mkB P w K mg (clAK K) fN (exAK K))) X G rfl (c.t.d.fact 39 rfl) (c.t.d.fact 107 rfl)
theorem e_Nothing_of (X : K.In base) (G : base.Ns mainGlobals mg) (c : He.SaysX fa fn ts tf ex w h K) : ExcB (mkB P w K mg (clAK K) fN (exAK K)) "Nothing" 7 := excB_of (B := (mkB P w K mg (clAK K) fN (exAK K))) X G rfl (c.t.d.fact 40 rfl) (c.t.d.fact 108 rfl)
theorem cl_Board_of (c : He.SaysX fa fn ts tf ex w h K) : ClB (mkB P w K mg (clAK K) fN (exAK K)) 0 4 := ⟨He.cls_ok (c.t.d.fact 60 rfl), rfl, (show (["side", "height", "width", "signs"] : List Str).Nodup by decide +kernel), fun f hf => by
  replace hf : f ∈ (["side", "height", "width", "signs"] : List Str) := hf
  rcases List.mem_cons.mp hf with e | hf
  · rw [e]; exact He.noat_ok (c.t.d.fact 62 rfl)
  rcases List.mem_cons.mp hf with e | hf
  · rw [e]; exact He.noat_ok (c.t.d.fact 63 rfl)
  rcases List.mem_cons.mp hf with e | hf
  · rw [e]; exact He.noat_ok (c.t.d.fact 64 rfl)
  rcases List.mem_cons.mp hf with e | hf
  · rw [e]; exact He.noat_ok (c.t.d.fact 65 rfl)
  · cases hf⟩
theorem cl_Game_of (c : He.SaysX fa fn ts tf ex w h K) : ClB (mkB P w K mg (clAK K) fN (exAK K)) 1 4 := ⟨He.cls_ok (c.t.d.fact 74 rfl), rfl, (show (["bound", "stands", "played", "quiets"] : List Str).Nodup by decide +kernel), fun f hf => by
  replace hf : f ∈ (["bound", "stands", "played", "quiets"] : List Str) := hf
  rcases List.mem_cons.mp hf with e | hf
  · rw [e]; exact He.noat_ok (c.t.d.fact 76 rfl)
  rcases List.mem_cons.mp hf with e | hf
  · rw [e]; exact He.noat_ok (c.t.d.fact 77 rfl)
  rcases List.mem_cons.mp hf with e | hf
  · rw [e]; exact He.noat_ok (c.t.d.fact 78 rfl)
  rcases List.mem_cons.mp hf with e | hf
  · rw [e]; exact He.noat_ok (c.t.d.fact 79 rfl)
  · cases hf⟩
theorem cl_Match_of (c : He.SaysX fa fn ts tf ex w h K) : ClB (mkB P w K mg (clAK K) fN (exAK K)) 2 4 := ⟨He.cls_ok (c.t.d.fact 85 rfl), rfl, (show (["game", "ticks", "spent", "ended"] : List Str).Nodup by decide +kernel), fun f hf => by
  replace hf : f ∈ (["game", "ticks", "spent", "ended"] : List Str) := hf
  rcases List.mem_cons.mp hf with e | hf
  · rw [e]; exact He.noat_ok (c.t.d.fact 87 rfl)
  rcases List.mem_cons.mp hf with e | hf
  · rw [e]; exact He.noat_ok (c.t.d.fact 88 rfl)
  rcases List.mem_cons.mp hf with e | hf
  · rw [e]; exact He.noat_ok (c.t.d.fact 89 rfl)
  rcases List.mem_cons.mp hf with e | hf
  · rw [e]; exact He.noat_ok (c.t.d.fact 90 rfl)
  · cases hf⟩
theorem h_need_stands_of (X : K.In base) (G : base.Ns mainGlobals mg) (c : He.SaysX fa fn ts tf ex w h K) : FnB P w K mg base 1 "need_stands" ["good"] (spP (mkB P w K mg (clAK K) fN (exAK K)) 1 F_need_stands) := by
  obtain ⟨fd, Fd⟩ := c.t.d.def_ 1 (d := dd_need_stands) rfl
  exact ⟨⟨_, _, fd_pure (fun _ _ _ => trivial) Fd sc_need_stands (b_need_stands (e_BadStand_of X G c)), He.glo_ok X G (c.t.d.fact 1 rfl), Fd.kp, (Fd.bindsN fun _ _ _ _ _ _ us hl => match us, hl with | [_], _ => rfl)⟩⟩
theorem h_is_size_of (X : K.In base) (G : base.Ns mainGlobals mg) (c : He.SaysX fa fn ts tf ex w h K) : FnB P w K mg base 1 "is_size" ["thing"] (spP (mkB P w K mg (clAK K) fN (exAK K)) 1 F_is_size) := by
  obtain ⟨fd, Fd⟩ := c.t.d.def_ 2 (d := dd_is_size) rfl
  exact ⟨⟨_, _, fd_pure (fun _ _ _ => trivial) Fd sc_is_size (b_is_size (He.free_ok X G (c.t.d.fact 46 rfl)) (He.free_ok X G (c.t.d.fact 48 rfl)) (He.free_ok X G (c.t.d.fact 49 rfl)) (c_LEAST_of X G c) (c_MOST_of X G c)), He.glo_ok X G (c.t.d.fact 2 rfl), Fd.kp, (Fd.bindsN fun _ _ _ _ _ _ us hl => match us, hl with | [_], _ => rfl)⟩⟩
theorem h_is_dark_of (X : K.In base) (G : base.Ns mainGlobals mg) (c : He.SaysX fa fn ts tf ex w h K) : FnB P w K mg base 1 "is_dark" ["row", "column"] (spP (mkB P w K mg (clAK K) fN (exAK K)) 2 F_is_dark) := by
  obtain ⟨fd, Fd⟩ := c.t.d.def_ 3 (d := dd_is_dark) rfl
  exact ⟨⟨_, _, fd_pure (fun _ _ _ => trivial) Fd sc_is_dark (b_is_dark ), He.glo_ok X G (c.t.d.fact 3 rfl), Fd.kp, (Fd.bindsN fun _ _ _ _ _ _ us hl => match us, hl with | [_, _], _ => rfl)⟩⟩
theorem h_last_row_of (X : K.In base) (G : base.Ns mainGlobals mg) (c : He.SaysX fa fn ts tf ex w h K) : FnB P w K mg base 1 "last_row" ["side", "height"] (spP (mkB P w K mg (clAK K) fN (exAK K)) 2 F_last_row) := by
  obtain ⟨fd, Fd⟩ := c.t.d.def_ 4 (d := dd_last_row) rfl
  exact ⟨⟨_, _, fd_pure (fun _ _ _ => trivial) Fd sc_last_row (b_last_row ), He.glo_ok X G (c.t.d.fact 4 rfl), Fd.kp, (Fd.bindsN fun _ _ _ _ _ _ us hl => match us, hl with | [_, _], _ => rfl)⟩⟩
theorem h_need_square_of (X : K.In base) (G : base.Ns mainGlobals mg) (c : He.SaysX fa fn ts tf ex w h K) : FnB P w K mg base 2 "need_square" ["sign", "row", "column", "height"] (spP (mkB P w K mg (clAK K) fN (exAK K)) 4 F_need_square) := by
  obtain ⟨fd, Fd⟩ := c.t.d.def_ 5 (d := dd_need_square) rfl
  exact ⟨⟨_, _, fd_pure (fun _ _ _ => trivial) Fd sc_need_square (b_need_square (c_SIDES_of X G c) (h_is_dark_of X G c) (h_last_row_of X G c) (h_need_stands_of X G c)), He.glo_ok X G (c.t.d.fact 5 rfl), Fd.kp, (Fd.bindsN fun _ _ _ _ _ _ us hl => match us, hl with | [_, _, _, _], _ => rfl)⟩⟩
theorem h_need_stand_of (X : K.In base) (G : base.Ns mainGlobals mg) (c : He.SaysX fa fn ts tf ex w h K) : FnB P w K mg base 3 "need_stand" ["stand"] (spP (mkB P w K mg (clAK K) fN (exAK K)) 1 F_need_stand) := by
  obtain ⟨fd, Fd⟩ := c.t.d.def_ 6 (d := dd_need_stand) rfl
  exact ⟨⟨_, _, fd_pure (fun _ _ _ => trivial) Fd sc_need_stand (b_need_stand (He.free_ok X G (c.t.d.fact 47 rfl)) (He.free_ok X G (c.t.d.fact 49 rfl)) (He.free_ok X G (c.t.d.fact 50 rfl)) (He.free_ok X G (c.t.d.fact 56 rfl)) (He.free_ok X G (c.t.d.fact 58 rfl)) (c_SIDES_of X G c) (h_is_size_of X G c) (h_need_square_of X G c) (h_need_stands_of X G c)), He.glo_ok X G (c.t.d.fact 6 rfl), Fd.kp, (Fd.bindsN fun _ _ _ _ _ _ us hl => match us, hl with | [_], _ => rfl)⟩⟩
theorem h_begin_of (X : K.In base) (G : base.Ns mainGlobals mg) (c : He.SaysX fa fn ts tf ex w h K) : FnB P w K mg base 2 "begin" ["height", "width", "filled"] (spP (mkB P w K mg (clAK K) fN (exAK K)) 3 F_begin) := by
  obtain ⟨fd, Fd⟩ := c.t.d.def_ 7 (d := dd_begin) rfl
  exact ⟨⟨_, _, fd_pure (fun _ _ _ => trivial) Fd sc_begin (b_begin (He.free_ok X G (c.t.d.fact 46 rfl)) (He.free_ok X G (c.t.d.fact 48 rfl)) (He.free_ok X G (c.t.d.fact 49 rfl)) (He.free_ok X G (c.t.d.fact 54 rfl)) (He.free_ok X G (c.t.d.fact 58 rfl)) (h_is_dark_of X G c) (h_is_size_of X G c) (h_need_stands_of X G c)), He.glo_ok X G (c.t.d.fact 7 rfl), Fd.kp, (Fd.bindsN fun _ _ _ _ _ _ us hl => match us, hl with | [_, _, _], _ => rfl)⟩⟩
theorem h_Board_init_of (X : K.In base) (G : base.Ns mainGlobals mg) (c : He.SaysX fa fn ts tf ex w h K) : MkB P w K mg base 1 (clAK K 0) "Board" ["self", "stand"] (spM (mkB P w K mg (clAK K) fN (exAK K)) 2 M_Board_init) := by
  obtain ⟨fd, Fd⟩ := c.t.d.def_ 30 (d := dd_Board_init) rfl
  exact ⟨⟨_, _, fd_meth Fd sc_Board_init (b_Board_init (He.free_ok X G (c.t.d.fact 47 rfl)) (He.free_ok X G (c.t.d.fact 50 rfl)) (cl_Board_of c)), He.mkr_ok (c.t.d.fact 61 rfl), He.glo_ok X G (c.t.d.fact 30 rfl), (Fd.bindsN fun _ _ _ _ _ _ us hl => match us, hl with | [_, _], _ => rfl)⟩⟩
theorem h_Board_own_of (X : K.In base) (G : base.Ns mainGlobals mg) (c : He.SaysX fa fn ts tf ex w h K) : MtB P w K mg base 1 (clAK K 0) "own" ["self"] (spM (mkB P w K mg (clAK K) fN (exAK K)) 1 M_Board_own) := by
  obtain ⟨fd, Fd⟩ := c.t.d.def_ 32 (d := dd_Board_own) rfl
  exact ⟨⟨_, _, fd_methT Fd sc_Board_own (b_Board_own (He.free_ok X G (c.t.d.fact 55 rfl)) (cl_Board_of c) (k_OWN_of X G c)), He.meth_ok (c.t.d.fact 67 rfl), (Fd.bindsN fun _ _ _ _ _ _ us hl => match us, hl with | [_], _ => rfl)⟩⟩
theorem h_Board_sign_of (X : K.In base) (G : base.Ns mainGlobals mg) (c : He.SaysX fa fn ts tf ex w h K) : MtB P w K mg base 1 (clAK K 0) "sign" ["self", "square"] (spM (mkB P w K mg (clAK K) fN (exAK K)) 2 M_Board_sign) := by
  obtain ⟨fd, Fd⟩ := c.t.d.def_ 31 (d := dd_Board_sign) rfl
  exact ⟨⟨_, _, fd_methT Fd sc_Board_sign (b_Board_sign (cl_Board_of c)), He.meth_ok (c.t.d.fact 66 rfl), (Fd.bindsN fun _ _ _ _ _ _ us hl => match us, hl with | [_, _], _ => rfl)⟩⟩
theorem h_Board_free_of (X : K.In base) (G : base.Ns mainGlobals mg) (c : He.SaysX fa fn ts tf ex w h K) : MtB P w K mg base 2 (clAK K 0) "free" ["self", "squares"] (spM (mkB P w K mg (clAK K) fN (exAK K)) 2 M_Board_free) := by
  obtain ⟨fd, Fd⟩ := c.t.d.def_ 34 (d := dd_Board_free) rfl
  exact ⟨⟨_, _, fd_methT Fd sc_Board_free (b_Board_free (cl_Board_of c) (h_Board_sign_of X G c)), He.meth_ok (c.t.d.fact 69 rfl), (Fd.bindsN fun _ _ _ _ _ _ us hl => match us, hl with | [_, _], _ => rfl)⟩⟩
theorem h_Board_ray_of (X : K.In base) (G : base.Ns mainGlobals mg) (c : He.SaysX fa fn ts tf ex w h K) : MtB P w K mg base 1 (clAK K 0) "ray" ["self", "square", "way"] (spM (mkB P w K mg (clAK K) fN (exAK K)) 3 M_Board_ray) := by
  obtain ⟨fd, Fd⟩ := c.t.d.def_ 33 (d := dd_Board_ray) rfl
  exact ⟨⟨_, _, fd_methT Fd sc_Board_ray (b_Board_ray (cl_Board_of c)), He.meth_ok (c.t.d.fact 68 rfl), (Fd.bindsN fun _ _ _ _ _ _ us hl => match us, hl with | [_, _, _], _ => rfl)⟩⟩
theorem h_Board_quiet_of (X : K.In base) (G : base.Ns mainGlobals mg) (c : He.SaysX fa fn ts tf ex w h K) : MtB P w K mg base 3 (clAK K 0) "quiet" ["self", "square"] (spM (mkB P w K mg (clAK K) fN (exAK K)) 2 M_Board_quiet) := by
  obtain ⟨fd, Fd⟩ := c.t.d.def_ 35 (d := dd_Board_quiet) rfl
  exact ⟨⟨_, _, fd_methT Fd sc_Board_quiet (b_Board_quiet (cl_Board_of c) (c_KINGS_of X G c) (c_WAYS_of X G c) (h_Board_free_of X G c) (h_Board_ray_of X G c) (h_Board_sign_of X G c)), He.meth_ok (c.t.d.fact 70 rfl), (Fd.bindsN fun _ _ _ _ _ _ us hl => match us, hl with | [_, _], _ => rfl)⟩⟩
theorem h_Board_leaps_of (X : K.In base) (G : base.Ns mainGlobals mg) (c : He.SaysX fa fn ts tf ex w h K) : MtB P w K mg base 3 (clAK K 0) "leaps" ["self", "square", "is_king", "taken"] (spM (mkB P w K mg (clAK K) fN (exAK K)) 4 M_Board_leaps) := by
  obtain ⟨fd, Fd⟩ := c.t.d.def_ 36 (d := dd_Board_leaps) rfl
  exact ⟨⟨_, _, fd_methT Fd sc_Board_leaps (b_Board_leaps (He.free_ok X G (c.t.d.fact 50 rfl)) (cl_Board_of c) (c_WAYS_of X G c) (k_OTHER_of X G c) (k_OWN_of X G c) (h_Board_free_of X G c) (h_Board_ray_of X G c) (h_Board_sign_of X G c)), He.meth_ok (c.t.d.fact 71 rfl), (Fd.bindsN fun _ _ _ _ _ _ us hl => match us, hl with | [_, _, _, _], _ => rfl)⟩⟩
theorem h_Board_chains_of (X : K.In base) (G : base.Ns mainGlobals mg) (c : He.SaysX fa fn ts tf ex w h K) : ∀ n : Nat, MtB P w K mg base (3 + n) (clAK K 0) "chains" ["self", "square", "is_king", "taken"] (spM (mkB P w K mg (clAK K) fN (exAK K)) 4 (M_Board_chains n)) := fun n => by
  obtain ⟨fd, Fd⟩ := c.t.d.def_ 37 (d := dd_Board_chains) rfl
  induction n with
  | zero => exact ⟨⟨_, _, fn_bad spM_bad, He.meth_ok (c.t.d.fact 72 rfl), (Fd.bindsN fun _ _ _ _ _ _ us hl => match us, hl with | [_, _, _, _], _ => rfl)⟩⟩
  | succ n ih => exact ⟨⟨_, _, fd_methT Fd sc_Board_chains (b_Board_chains (M_Board_chains n) n (He.free_ok X G (c.t.d.fact 50 rfl)) (cl_Board_of c) ih (h_Board_leaps_of X G c)), He.meth_ok (c.t.d.fact 72 rfl), (Fd.bindsN fun _ _ _ _ _ _ us hl => match us, hl with | [_, _, _, _], _ => rfl)⟩⟩
theorem h_Board_takes_of (X : K.In base) (G : base.Ns mainGlobals mg) (c : He.SaysX fa fn ts tf ex w h K) : MtB P w K mg base 16 (clAK K 0) "takes" ["self"] (spM (mkB P w K mg (clAK K) fN (exAK K)) 1 M_Board_takes) := by
  obtain ⟨fd, Fd⟩ := c.t.d.def_ 38 (d := dd_Board_takes) rfl
  exact ⟨⟨_, _, fd_methT Fd sc_Board_takes (b_Board_takes (He.free_ok X G (c.t.d.fact 50 rfl)) (He.free_ok X G (c.t.d.fact 52 rfl)) (cl_Board_of c) (c_KINGS_of X G c) (h_Board_chains_of X G c 12) (h_Board_own_of X G c)), He.meth_ok (c.t.d.fact 73 rfl), (Fd.bindsN fun _ _ _ _ _ _ us hl => match us, hl with | [_], _ => rfl)⟩⟩
theorem h_ways_of_of (X : K.In base) (G : base.Ns mainGlobals mg) (c : He.SaysX fa fn ts tf ex w h K) : FnB P w K mg base 17 "ways_of" ["stand"] (spP (mkB P w K mg (clAK K) fN (exAK K)) 1 F_ways_of) := by
  obtain ⟨fd, Fd⟩ := c.t.d.def_ 8 (d := dd_ways_of) rfl
  exact ⟨⟨_, _, fd_pure (fun _ _ _ => trivial) Fd sc_ways_of (b_ways_of (He.free_ok X G (c.t.d.fact 58 rfl)) (cl_Board_of c) (h_Board_own_of X G c) (h_Board_quiet_of X G c) (h_Board_takes_of X G c) (h_Board_init_of X G c)), He.glo_ok X G (c.t.d.fact 8 rfl), Fd.kp, (Fd.bindsN fun _ _ _ _ _ _ us hl => match us, hl with | [_], _ => rfl)⟩⟩
theorem h_moves_moves_of (X : K.In base) (G : base.Ns mainGlobals mg) (c : He.SaysX fa fn ts tf ex w h K) : FnB P w K mg base 18 "moves_moves" ["stand"] (spP (mkB P w K mg (clAK K) fN (exAK K)) 1 F_moves_moves) := by
  obtain ⟨fd, Fd⟩ := c.t.d.def_ 9 (d := dd_moves_moves) rfl
  exact ⟨⟨_, _, fd_pure (fun _ _ _ => trivial) Fd sc_moves_moves (b_moves_moves (He.free_ok X G (c.t.d.fact 55 rfl)) (h_need_stand_of X G c) (h_ways_of_of X G c)), He.glo_ok X G (c.t.d.fact 9 rfl), Fd.kp, (Fd.bindsN fun _ _ _ _ _ _ us hl => match us, hl with | [_], _ => rfl)⟩⟩
theorem h_need_move_of (X : K.In base) (G : base.Ns mainGlobals mg) (c : He.SaysX fa fn ts tf ex w h K) : FnB P w K mg base 18 "need_move" ["stand", "move"] (spP (mkB P w K mg (clAK K) fN (exAK K)) 2 F_need_move) := by
  obtain ⟨fd, Fd⟩ := c.t.d.def_ 10 (d := dd_need_move) rfl
  exact ⟨⟨_, _, fd_pure (fun _ _ _ => trivial) Fd sc_need_move (b_need_move (He.free_ok X G (c.t.d.fact 51 rfl)) (e_BadMove_of X G c) (h_need_stand_of X G c) (h_ways_of_of X G c)), He.glo_ok X G (c.t.d.fact 10 rfl), Fd.kp, (Fd.bindsN fun _ _ _ _ _ _ us hl => match us, hl with | [_, _], _ => rfl)⟩⟩
theorem h_moved_of (X : K.In base) (G : base.Ns mainGlobals mg) (c : He.SaysX fa fn ts tf ex w h K) : FnB P w K mg base 2 "moved" ["stand", "move", "prey"] (spP (mkB P w K mg (clAK K) fN (exAK K)) 3 F_moved) := by
  obtain ⟨fd, Fd⟩ := c.t.d.def_ 11 (d := dd_moved) rfl
  exact ⟨⟨_, _, fd_pure (fun _ _ _ => trivial) Fd sc_moved (b_moved (He.free_ok X G (c.t.d.fact 50 rfl)) (He.free_ok X G (c.t.d.fact 51 rfl)) (He.free_ok X G (c.t.d.fact 58 rfl)) (h_last_row_of X G c) (k_OTHER_of X G c)), He.glo_ok X G (c.t.d.fact 11 rfl), Fd.kp, (Fd.bindsN fun _ _ _ _ _ _ us hl => match us, hl with | [_, _, _], _ => rfl)⟩⟩
theorem h_need_notes_of (X : K.In base) (G : base.Ns mainGlobals mg) (c : He.SaysX fa fn ts tf ex w h K) : FnB P w K mg base 1 "need_notes" ["good"] (spP (mkB P w K mg (clAK K) fN (exAK K)) 1 F_need_notes) := by
  obtain ⟨fd, Fd⟩ := c.t.d.def_ 12 (d := dd_need_notes) rfl
  exact ⟨⟨_, _, fd_pure (fun _ _ _ => trivial) Fd sc_need_notes (b_need_notes (e_BadText_of X G c)), He.glo_ok X G (c.t.d.fact 12 rfl), Fd.kp, (Fd.bindsN fun _ _ _ _ _ _ us hl => match us, hl with | [_], _ => rfl)⟩⟩
theorem h_squares_of_of (X : K.In base) (G : base.Ns mainGlobals mg) (c : He.SaysX fa fn ts tf ex w h K) : FnB P w K mg base 2 "squares_of" ["stand"] (spP (mkB P w K mg (clAK K) fN (exAK K)) 1 F_squares_of) := by
  obtain ⟨fd, Fd⟩ := c.t.d.def_ 13 (d := dd_squares_of) rfl
  exact ⟨⟨_, _, fd_pure (fun _ _ _ => trivial) Fd sc_squares_of (b_squares_of (He.free_ok X G (c.t.d.fact 50 rfl)) (He.free_ok X G (c.t.d.fact 54 rfl)) (h_is_dark_of X G c)), He.glo_ok X G (c.t.d.fact 13 rfl), Fd.kp, (Fd.bindsN fun _ _ _ _ _ _ us hl => match us, hl with | [_], _ => rfl)⟩⟩
theorem h_full_text_of (X : K.In base) (G : base.Ns mainGlobals mg) (c : He.SaysX fa fn ts tf ex w h K) : FnB P w K mg base 1 "full_text" ["squares", "move", "sign"] (spP (mkB P w K mg (clAK K) fN (exAK K)) 3 F_full_text) := by
  obtain ⟨fd, Fd⟩ := c.t.d.def_ 14 (d := dd_full_text) rfl
  exact ⟨⟨_, _, fd_pure (fun _ _ _ => trivial) Fd sc_full_text (b_full_text (He.free_ok X G (c.t.d.fact 56 rfl))), He.glo_ok X G (c.t.d.fact 14 rfl), Fd.kp, (Fd.bindsN fun _ _ _ _ _ _ us hl => match us, hl with | [_, _, _], _ => rfl)⟩⟩
theorem h_sign_of_of (X : K.In base) (G : base.Ns mainGlobals mg) (c : He.SaysX fa fn ts tf ex w h K) : FnB P w K mg base 1 "sign_of" ["prey"] (spP (mkB P w K mg (clAK K) fN (exAK K)) 1 F_sign_of) := by
  obtain ⟨fd, Fd⟩ := c.t.d.def_ 15 (d := dd_sign_of) rfl
  exact ⟨⟨_, _, fd_pure (fun _ _ _ => trivial) Fd sc_sign_of (b_sign_of ), He.glo_ok X G (c.t.d.fact 15 rfl), Fd.kp, (Fd.bindsN fun _ _ _ _ _ _ us hl => match us, hl with | [_], _ => rfl)⟩⟩
theorem h_written_move_of (X : K.In base) (G : base.Ns mainGlobals mg) (c : He.SaysX fa fn ts tf ex w h K) : FnB P w K mg base 19 "written_move" ["stand", "move"] (spP (mkB P w K mg (clAK K) fN (exAK K)) 2 F_written_move) := by
  obtain ⟨fd, Fd⟩ := c.t.d.def_ 16 (d := dd_written_move) rfl
  exact ⟨⟨_, _, fd_pure (fun _ _ _ => trivial) Fd sc_written_move (b_written_move (He.free_ok X G (c.t.d.fact 45 rfl)) (h_full_text_of X G c) (h_moved_of X G c) (h_need_move_of X G c) (h_sign_of_of X G c) (h_squares_of_of X G c) (h_ways_of_of X G c)), He.glo_ok X G (c.t.d.fact 16 rfl), Fd.kp, (Fd.bindsN fun _ _ _ _ _ _ us hl => match us, hl with | [_, _], _ => rfl)⟩⟩
theorem h_number_of_of (X : K.In base) (G : base.Ns mainGlobals mg) (c : He.SaysX fa fn ts tf ex w h K) : FnB P w K mg base 2 "number_of" ["text", "most"] (spP (mkB P w K mg (clAK K) fN (exAK K)) 2 F_number_of) := by
  obtain ⟨fd, Fd⟩ := c.t.d.def_ 17 (d := dd_number_of) rfl
  exact ⟨⟨_, _, fd_pure (fun _ _ _ => trivial) Fd sc_number_of (b_number_of (He.free_ok X G (c.t.d.fact 45 rfl)) (He.free_ok X G (c.t.d.fact 48 rfl)) (He.free_ok X G (c.t.d.fact 50 rfl)) (c_FIGURES_notes_of X G c) (h_need_notes_of X G c)), He.glo_ok X G (c.t.d.fact 17 rfl), Fd.kp, (Fd.bindsN fun _ _ _ _ _ _ us hl => match us, hl with | [_, _], _ => rfl)⟩⟩
theorem h_read_move_of (X : K.In base) (G : base.Ns mainGlobals mg) (c : He.SaysX fa fn ts tf ex w h K) : FnB P w K mg base 18 "read_move" ["stand", "text"] (spP (mkB P w K mg (clAK K) fN (exAK K)) 2 F_read_move) := by
  obtain ⟨fd, Fd⟩ := c.t.d.def_ 18 (d := dd_read_move) rfl
  exact ⟨⟨_, _, fd_pure (fun _ _ _ => trivial) Fd sc_read_move (b_read_move (He.free_ok X G (c.t.d.fact 45 rfl)) (He.free_ok X G (c.t.d.fact 50 rfl)) (He.free_ok X G (c.t.d.fact 55 rfl)) (He.free_ok X G (c.t.d.fact 58 rfl)) (h_moved_of X G c) (h_need_notes_of X G c) (h_need_stand_of X G c) (h_number_of_of X G c) (h_sign_of_of X G c) (h_squares_of_of X G c) (h_ways_of_of X G c)), He.glo_ok X G (c.t.d.fact 18 rfl), Fd.kp, (Fd.bindsN fun _ _ _ _ _ _ us hl => match us, hl with | [_, _], _ => rfl)⟩⟩
theorem h_is_ticks_of (X : K.In base) (G : base.Ns mainGlobals mg) (c : He.SaysX fa fn ts tf ex w h K) : FnB P w K mg base 1 "is_ticks" ["thing", "least"] (spP (mkB P w K mg (clAK K) fN (exAK K)) 2 F_is_ticks) := by
  obtain ⟨fd, Fd⟩ := c.t.d.def_ 19 (d := dd_is_ticks) rfl
  exact ⟨⟨_, _, fd_pure (fun _ _ _ => trivial) Fd sc_is_ticks (b_is_ticks (He.free_ok X G (c.t.d.fact 46 rfl)) (He.free_ok X G (c.t.d.fact 48 rfl)) (He.free_ok X G (c.t.d.fact 49 rfl)) (c_MOST_TICKS_of X G c)), He.glo_ok X G (c.t.d.fact 19 rfl), Fd.kp, (Fd.bindsN fun _ _ _ _ _ _ us hl => match us, hl with | [_, _], _ => rfl)⟩⟩
theorem h_Game_moves_of (X : K.In base) (G : base.Ns mainGlobals mg) (c : He.SaysX fa fn ts tf ex w h K) : MtB P w K mg base 1 (clAK K 1) "moves" ["self"] (spM (mkB P w K mg (clAK K) fN (exAK K)) 1 M_Game_moves) := by
  obtain ⟨fd, Fd⟩ := c.t.d.def_ 44 (d := dd_Game_moves) rfl
  exact ⟨⟨_, _, fd_methT Fd sc_Game_moves (b_Game_moves (He.free_ok X G (c.t.d.fact 51 rfl)) (cl_Game_of c)), He.meth_ok (c.t.d.fact 84 rfl), (Fd.bindsN fun _ _ _ _ _ _ us hl => match us, hl with | [_], _ => rfl)⟩⟩
theorem h_Match_moves_of (X : K.In base) (G : base.Ns mainGlobals mg) (c : He.SaysX fa fn ts tf ex w h K) : MtB P w K mg base 2 (clAK K 2) "moves" ["self"] (spM (mkB P w K mg (clAK K) fN (exAK K)) 1 M_Match_moves) := by
  obtain ⟨fd, Fd⟩ := c.t.d.def_ 54 (d := dd_Match_moves) rfl
  exact ⟨⟨_, _, fd_methT Fd sc_Match_moves (b_Match_moves (He.free_ok X G (c.t.d.fact 51 rfl)) (He.free_ok X G (c.t.d.fact 59 rfl)) (cl_Game_of c) (cl_Match_of c) (h_Game_moves_of X G c)), He.meth_ok (c.t.d.fact 99 rfl), (Fd.bindsN fun _ _ _ _ _ _ us hl => match us, hl with | [_], _ => rfl)⟩⟩
theorem h_written_match_of (X : K.In base) (G : base.Ns mainGlobals mg) (c : He.SaysX fa fn ts tf ex w h K) : FnB P w K mg base 20 "written_match" ["match"] (spP (mkB P w K mg (clAK K) fN (exAK K)) 1 F_written_match) := by
  obtain ⟨fd, Fd⟩ := c.t.d.def_ 20 (d := dd_written_match) rfl
  exact ⟨⟨_, _, fd_pure (fun _ _ _ => trivial) Fd sc_written_match (b_written_match (He.free_ok X G (c.t.d.fact 56 rfl)) (He.free_ok X G (c.t.d.fact 59 rfl)) (cl_Game_of c) (cl_Match_of c) (h_written_move_of X G c) (h_Match_moves_of X G c)), He.glo_ok X G (c.t.d.fact 20 rfl), Fd.kp, (Fd.bindsN fun _ _ _ _ _ _ us hl => match us, hl with | [_], _ => rfl)⟩⟩
theorem hm_written_match_of (X : K.In base) (G : base.Ns mainGlobals mg) (c : He.SaysX fa fn ts tf ex w h K) : FnB P w K mg base 20 "written_match" ["match"] (spM (mkB P w K mg (clAK K) fN (exAK K)) 1 M_written_match) := by
  obtain ⟨fd, Fd⟩ := c.t.d.def_ 20 (d := dd_written_match) rfl
  exact ⟨⟨_, _, fd_methT Fd sc_written_match (b_written_match (He.free_ok X G (c.t.d.fact 56 rfl)) (He.free_ok X G (c.t.d.fact 59 rfl)) (cl_Game_of c) (cl_Match_of c) (h_written_move_of X G c) (h_Match_moves_of X G c)), He.glo_ok X G (c.t.d.fact 20 rfl), Fd.kp, (Fd.bindsN fun _ _ _ _ _ _ us hl => match us, hl with | [_], _ => rfl)⟩⟩
theorem h_number_in_of (X : K.In base) (G : base.Ns mainGlobals mg) (c : He.SaysX fa fn ts tf ex w h K) : FnB P w K mg base 1 "number_in" ["word"] (spP (mkB P w K mg (clAK K) fN (exAK K)) 1 F_number_in) := by
  obtain ⟨fd, Fd⟩ := c.t.d.def_ 21 (d := dd_number_in) rfl
  exact ⟨⟨_, _, fd_pure (fun _ _ _ => trivial) Fd sc_number_in (b_number_in (He.free_ok X G (c.t.d.fact 45 rfl)) (He.free_ok X G (c.t.d.fact 48 rfl)) (He.free_ok X G (c.t.d.fact 50 rfl)) (c_FIGURES_matches_of X G c) (e_BadText_of X G c)), He.glo_ok X G (c.t.d.fact 21 rfl), Fd.kp, (Fd.bindsN fun _ _ _ _ _ _ us hl => match us, hl with | [_], _ => rfl)⟩⟩
theorem h_Game_state_of (X : K.In base) (G : base.Ns mainGlobals mg) (c : He.SaysX fa fn ts tf ex w h K) : MtB P w K mg base 19 (clAK K 1) "state" ["self"] (spM (mkB P w K mg (clAK K) fN (exAK K)) 1 M_Game_state) := by
  obtain ⟨fd, Fd⟩ := c.t.d.def_ 41 (d := dd_Game_state) rfl
  exact ⟨⟨_, _, fd_methT Fd sc_Game_state (b_Game_state (cl_Game_of c) (h_moves_moves_of X G c) (k_OTHER_of X G c)), He.meth_ok (c.t.d.fact 81 rfl), (Fd.bindsN fun _ _ _ _ _ _ us hl => match us, hl with | [_], _ => rfl)⟩⟩
theorem h_Match_state_of (X : K.In base) (G : base.Ns mainGlobals mg) (c : He.SaysX fa fn ts tf ex w h K) : MtB P w K mg base 20 (clAK K 2) "state" ["self"] (spM (mkB P w K mg (clAK K) fN (exAK K)) 1 M_Match_state) := by
  obtain ⟨fd, Fd⟩ := c.t.d.def_ 49 (d := dd_Match_state) rfl
  exact ⟨⟨_, _, fd_methT Fd sc_Match_state (b_Match_state (cl_Game_of c) (cl_Match_of c) (h_Game_state_of X G c)), He.meth_ok (c.t.d.fact 94 rfl), (Fd.bindsN fun _ _ _ _ _ _ us hl => match us, hl with | [_], _ => rfl)⟩⟩
theorem h_Match_need_open_of (X : K.In base) (G : base.Ns mainGlobals mg) (c : He.SaysX fa fn ts tf ex w h K) : MtB P w K mg base 21 (clAK K 2) "need_open" ["self"] (spM (mkB P w K mg (clAK K) fN (exAK K)) 1 M_Match_need_open) := by
  obtain ⟨fd, Fd⟩ := c.t.d.def_ 50 (d := dd_Match_need_open) rfl
  exact ⟨⟨_, _, fd_methT Fd sc_Match_need_open (b_Match_need_open (cl_Match_of c) (e_Over_of X G c) (h_Match_state_of X G c)), He.meth_ok (c.t.d.fact 95 rfl), (Fd.bindsN fun _ _ _ _ _ _ us hl => match us, hl with | [_], _ => rfl)⟩⟩
theorem h_Game_stand_of (X : K.In base) (G : base.Ns mainGlobals mg) (c : He.SaysX fa fn ts tf ex w h K) : MtB P w K mg base 1 (clAK K 1) "stand" ["self"] (spM (mkB P w K mg (clAK K) fN (exAK K)) 1 M_Game_stand) := by
  obtain ⟨fd, Fd⟩ := c.t.d.def_ 40 (d := dd_Game_stand) rfl
  exact ⟨⟨_, _, fd_methT Fd sc_Game_stand (b_Game_stand (cl_Game_of c)), He.meth_ok (c.t.d.fact 80 rfl), (Fd.bindsN fun _ _ _ _ _ _ us hl => match us, hl with | [_], _ => rfl)⟩⟩
theorem h_Match_stand_of (X : K.In base) (G : base.Ns mainGlobals mg) (c : He.SaysX fa fn ts tf ex w h K) : MtB P w K mg base 2 (clAK K 2) "stand" ["self"] (spM (mkB P w K mg (clAK K) fN (exAK K)) 1 M_Match_stand) := by
  obtain ⟨fd, Fd⟩ := c.t.d.def_ 46 (d := dd_Match_stand) rfl
  exact ⟨⟨_, _, fd_methT Fd sc_Match_stand (b_Match_stand (cl_Game_of c) (cl_Match_of c) (h_Game_stand_of X G c)), He.meth_ok (c.t.d.fact 91 rfl), (Fd.bindsN fun _ _ _ _ _ _ us hl => match us, hl with | [_], _ => rfl)⟩⟩
theorem h_Match_give_up_of (X : K.In base) (G : base.Ns mainGlobals mg) (c : He.SaysX fa fn ts tf ex w h K) : MtB P w K mg base 22 (clAK K 2) "give_up" ["self"] (spM (mkB P w K mg (clAK K) fN (exAK K)) 1 M_Match_give_up) := by
  obtain ⟨fd, Fd⟩ := c.t.d.def_ 52 (d := dd_Match_give_up) rfl
  exact ⟨⟨_, _, fd_meth Fd sc_Match_give_up (b_Match_give_up (cl_Match_of c) (h_Match_need_open_of X G c) (h_Match_stand_of X G c)), He.meth_ok (c.t.d.fact 97 rfl), (Fd.bindsN fun _ _ _ _ _ _ us hl => match us, hl with | [_], _ => rfl)⟩⟩
theorem h_Match_left_of (X : K.In base) (G : base.Ns mainGlobals mg) (c : He.SaysX fa fn ts tf ex w h K) : MtB P w K mg base 1 (clAK K 2) "left" ["self"] (spM (mkB P w K mg (clAK K) fN (exAK K)) 1 M_Match_left) := by
  obtain ⟨fd, Fd⟩ := c.t.d.def_ 47 (d := dd_Match_left) rfl
  exact ⟨⟨_, _, fd_methT Fd sc_Match_left (b_Match_left (He.free_ok X G (c.t.d.fact 47 rfl)) (He.free_ok X G (c.t.d.fact 52 rfl)) (cl_Game_of c) (cl_Match_of c)), He.meth_ok (c.t.d.fact 92 rfl), (Fd.bindsN fun _ _ _ _ _ _ us hl => match us, hl with | [_], _ => rfl)⟩⟩
theorem h_Match_own_left_of (X : K.In base) (G : base.Ns mainGlobals mg) (c : He.SaysX fa fn ts tf ex w h K) : MtB P w K mg base 3 (clAK K 2) "own_left" ["self"] (spM (mkB P w K mg (clAK K) fN (exAK K)) 1 M_Match_own_left) := by
  obtain ⟨fd, Fd⟩ := c.t.d.def_ 48 (d := dd_Match_own_left) rfl
  exact ⟨⟨_, _, fd_methT Fd sc_Match_own_left (b_Match_own_left (cl_Match_of c) (h_Match_left_of X G c) (h_Match_stand_of X G c)), He.meth_ok (c.t.d.fact 93 rfl), (Fd.bindsN fun _ _ _ _ _ _ us hl => match us, hl with | [_], _ => rfl)⟩⟩
theorem h_Game_play_of (X : K.In base) (G : base.Ns mainGlobals mg) (c : He.SaysX fa fn ts tf ex w h K) : MtB P w K mg base 20 (clAK K 1) "play" ["self", "move"] (spM (mkB P w K mg (clAK K) fN (exAK K)) 2 M_Game_play) := by
  obtain ⟨fd, Fd⟩ := c.t.d.def_ 42 (d := dd_Game_play) rfl
  exact ⟨⟨_, _, fd_meth Fd sc_Game_play (b_Game_play (cl_Game_of c) (c_KINGS_of X G c) (e_Over_of X G c) (h_moved_of X G c) (h_need_move_of X G c) (h_Game_state_of X G c)), He.meth_ok (c.t.d.fact 82 rfl), (Fd.bindsN fun _ _ _ _ _ _ us hl => match us, hl with | [_, _], _ => rfl)⟩⟩
theorem h_Match_play_of (X : K.In base) (G : base.Ns mainGlobals mg) (c : He.SaysX fa fn ts tf ex w h K) : MtB P w K mg base 22 (clAK K 2) "play" ["self", "move", "spent"] (spM (mkB P w K mg (clAK K) fN (exAK K)) 3 M_Match_play) := by
  obtain ⟨fd, Fd⟩ := c.t.d.def_ 51 (d := dd_Match_play) rfl
  exact ⟨⟨_, _, fd_meth Fd sc_Match_play (b_Match_play (cl_Game_of c) (cl_Match_of c) (e_BadCount_of X G c) (h_is_ticks_of X G c) (h_need_move_of X G c) (h_Game_play_of X G c) (h_Match_need_open_of X G c) (h_Match_own_left_of X G c) (h_Match_stand_of X G c)), He.meth_ok (c.t.d.fact 96 rfl), (Fd.bindsN fun _ _ _ _ _ _ us hl => match us, hl with | [_, _, _], _ => rfl)⟩⟩
theorem h_play_word_of (X : K.In base) (G : base.Ns mainGlobals mg) (c : He.SaysX fa fn ts tf ex w h K) : FnB P w K mg base 23 "play_word" ["match", "word"] (spP (mkB P w K mg (clAK K) fN (exAK K)) 2 F_play_word) := by
  obtain ⟨fd, Fd⟩ := c.t.d.def_ 22 (d := dd_play_word) rfl
  exact ⟨⟨_, _, fd_pure (fun _ _ _ => trivial) Fd sc_play_word (b_play_word (cl_Match_of c) (c_MOST_TICKS_of X G c) (e_BadText_of X G c) (h_number_in_of X G c) (h_read_move_of X G c) (h_Match_give_up_of X G c) (h_Match_need_open_of X G c) (h_Match_own_left_of X G c) (h_Match_play_of X G c) (h_Match_stand_of X G c)), He.glo_ok X G (c.t.d.fact 22 rfl), Fd.kp, (Fd.bindsN fun _ _ _ _ _ _ us hl => match us, hl with | [_, _], _ => rfl)⟩⟩
theorem hm_play_word_of (X : K.In base) (G : base.Ns mainGlobals mg) (c : He.SaysX fa fn ts tf ex w h K) : FnB P w K mg base 23 "play_word" ["match", "word"] (spM (mkB P w K mg (clAK K) fN (exAK K)) 2 M_play_word) := by
  obtain ⟨fd, Fd⟩ := c.t.d.def_ 22 (d := dd_play_word) rfl
  exact ⟨⟨_, _, fd_meth Fd sc_play_word (b_play_word (cl_Match_of c) (c_MOST_TICKS_of X G c) (e_BadText_of X G c) (h_number_in_of X G c) (h_read_move_of X G c) (h_Match_give_up_of X G c) (h_Match_need_open_of X G c) (h_Match_own_left_of X G c) (h_Match_play_of X G c) (h_Match_stand_of X G c)), He.glo_ok X G (c.t.d.fact 22 rfl), Fd.kp, (Fd.bindsN fun _ _ _ _ _ _ us hl => match us, hl with | [_, _], _ => rfl)⟩⟩
theorem h_Game_init_of (X : K.In base) (G : base.Ns mainGlobals mg) (c : He.SaysX fa fn ts tf ex w h K) : MkB P w K mg base 4 (clAK K 1) "Game" ["self", "stand", "bound"] (spM (mkB P w K mg (clAK K) fN (exAK K)) 3 M_Game_init) := by
  obtain ⟨fd, Fd⟩ := c.t.d.def_ 39 (d := dd_Game_init) rfl
  exact ⟨⟨_, _, fd_meth Fd sc_Game_init (b_Game_init (He.free_ok X G (c.t.d.fact 46 rfl)) (He.free_ok X G (c.t.d.fact 48 rfl)) (He.free_ok X G (c.t.d.fact 49 rfl)) (cl_Game_of c) (c_MOST_QUIET_of X G c) (e_BadCount_of X G c) (h_need_stand_of X G c)), He.mkr_ok (c.t.d.fact 75 rfl), He.glo_ok X G (c.t.d.fact 31 rfl), (Fd.bindsN fun _ _ _ _ _ _ us hl => match us, hl with | [_, _, _], _ => rfl)⟩⟩
theorem h_Match_init_of (X : K.In base) (G : base.Ns mainGlobals mg) (c : He.SaysX fa fn ts tf ex w h K) : MkB P w K mg base 6 (clAK K 2) "Match" ["self", "stand", "bound", "ticks"] (spM (mkB P w K mg (clAK K) fN (exAK K)) 4 M_Match_init) := by
  obtain ⟨fd, Fd⟩ := c.t.d.def_ 45 (d := dd_Match_init) rfl
  exact ⟨⟨_, _, fd_meth Fd sc_Match_init (b_Match_init (cl_Game_of c) (cl_Match_of c) (e_BadCount_of X G c) (h_is_ticks_of X G c) (h_Game_init_of X G c)), He.mkr_ok (c.t.d.fact 86 rfl), He.glo_ok X G (c.t.d.fact 32 rfl), (Fd.bindsN fun _ _ _ _ _ _ us hl => match us, hl with | [_, _, _, _], _ => rfl)⟩⟩
theorem h_read_match_of (X : K.In base) (G : base.Ns mainGlobals mg) (c : He.SaysX fa fn ts tf ex w h K) : FnB P w K mg base 24 "read_match" ["stand", "bound", "ticks", "text"] (spP (mkB P w K mg (clAK K) fN (exAK K)) 4 F_read_match) := by
  obtain ⟨fd, Fd⟩ := c.t.d.def_ 23 (d := dd_read_match) rfl
  exact ⟨⟨_, _, fd_pure (fun _ _ _ => trivial) Fd sc_read_match (b_read_match (cl_Match_of c) (e_BadText_of X G c) (hm_play_word_of X G c) (leapB_of X G (c.t.d.fact 41 rfl) ((He.ba (He.ba (He.ba (He.ba (He.ba (He.ba (He.ba (He.ba (He.ba (He.ba (He.ba (He.ba c.more).2).2).2).2).2).2).2).2).2).2).2).1)) (h_Match_init_of X G c)), He.glo_ok X G (c.t.d.fact 23 rfl), Fd.kp, (Fd.bindsN fun _ _ _ _ _ _ us hl => match us, hl with | [_, _, _, _], _ => rfl)⟩⟩
theorem hm_read_match_of (X : K.In base) (G : base.Ns mainGlobals mg) (c : He.SaysX fa fn ts tf ex w h K) : FnB P w K mg base 24 "read_match" ["stand", "bound", "ticks", "text"] (spM (mkB P w K mg (clAK K) fN (exAK K)) 4 M_read_match) := by
  obtain ⟨fd, Fd⟩ := c.t.d.def_ 23 (d := dd_read_match) rfl
  exact ⟨⟨_, _, fd_meth Fd sc_read_match (b_read_match (cl_Match_of c) (e_BadText_of X G c) (hm_play_word_of X G c) (leapB_of X G (c.t.d.fact 41 rfl) ((He.ba (He.ba (He.ba (He.ba (He.ba (He.ba (He.ba (He.ba (He.ba (He.ba (He.ba (He.ba c.more).2).2).2).2).2).2).2).2).2).2).2).1)) (h_Match_init_of X G c)), He.glo_ok X G (c.t.d.fact 23 rfl), Fd.kp, (Fd.bindsN fun _ _ _ _ _ _ us hl => match us, hl with | [_, _, _, _], _ => rfl)⟩⟩
theorem h_u_law_cell_of (X : K.In base) (G : base.Ns mainGlobals mg) (c : He.SaysX fa fn ts tf ex w h K) : FnB P w K mg base 1 "_law_cell" ["script", "k"] (spP (mkB P w K mg (clAK K) fN (exAK K)) 2 F_u_law_cell) := by
  obtain ⟨fd, Fd⟩ := c.t.d.def_ 24 (d := dd_u_law_cell) rfl
  exact ⟨⟨_, _, fd_pure (fun _ _ _ => trivial) Fd sc_u_law_cell (b_u_law_cell (He.free_ok X G (c.t.d.fact 50 rfl))), He.glo_ok X G (c.t.d.fact 24 rfl), Fd.kp, (Fd.bindsN fun _ _ _ _ _ _ us hl => match us, hl with | [_, _], _ => rfl)⟩⟩
theorem h_u_law_drawn_of (X : K.In base) (G : base.Ns mainGlobals mg) (c : He.SaysX fa fn ts tf ex w h K) : FnB P w K mg base 1 "_law_drawn" ["cell", "k"] (spP (mkB P w K mg (clAK K) fN (exAK K)) 2 F_u_law_drawn) := by
  obtain ⟨fd, Fd⟩ := c.t.d.def_ 25 (d := dd_u_law_drawn) rfl
  exact ⟨⟨_, _, fd_pure (fun _ _ _ => trivial) Fd sc_u_law_drawn (b_u_law_drawn ), He.glo_ok X G (c.t.d.fact 25 rfl), Fd.kp, (Fd.bindsN fun _ _ _ _ _ _ us hl => match us, hl with | [_, _], _ => rfl)⟩⟩
theorem h_u_law_bad_texts_of (X : K.In base) (G : base.Ns mainGlobals mg) (c : He.SaysX fa fn ts tf ex w h K) : FnB P w K mg base 1 "_law_bad_texts" ["stand", "word", "side"] (spP (mkB P w K mg (clAK K) fN (exAK K)) 3 F_u_law_bad_texts) := by
  obtain ⟨fd, Fd⟩ := c.t.d.def_ 28 (d := dd_u_law_bad_texts) rfl
  exact ⟨⟨_, _, fd_pure (fun _ _ _ => trivial) Fd sc_u_law_bad_texts (b_u_law_bad_texts ), He.glo_ok X G (c.t.d.fact 28 rfl), Fd.kp, (Fd.bindsN fun _ _ _ _ _ _ us hl => match us, hl with | [_, _, _], _ => rfl)⟩⟩
theorem h_Game_back_of (X : K.In base) (G : base.Ns mainGlobals mg) (c : He.SaysX fa fn ts tf ex w h K) : MtB P w K mg base 1 (clAK K 1) "back" ["self"] (spM (mkB P w K mg (clAK K) fN (exAK K)) 1 M_Game_back) := by
  obtain ⟨fd, Fd⟩ := c.t.d.def_ 43 (d := dd_Game_back) rfl
  exact ⟨⟨_, _, fd_meth Fd sc_Game_back (b_Game_back (cl_Game_of c) (e_Over_of X G c)), He.meth_ok (c.t.d.fact 83 rfl), (Fd.bindsN fun _ _ _ _ _ _ us hl => match us, hl with | [_], _ => rfl)⟩⟩
theorem h_Match_back_of (X : K.In base) (G : base.Ns mainGlobals mg) (c : He.SaysX fa fn ts tf ex w h K) : MtB P w K mg base 2 (clAK K 2) "back" ["self"] (spM (mkB P w K mg (clAK K) fN (exAK K)) 1 M_Match_back) := by
  obtain ⟨fd, Fd⟩ := c.t.d.def_ 53 (d := dd_Match_back) rfl
  exact ⟨⟨_, _, fd_meth Fd sc_Match_back (b_Match_back (cl_Game_of c) (cl_Match_of c) (e_Nothing_of X G c) (h_Game_back_of X G c)), He.meth_ok (c.t.d.fact 98 rfl), (Fd.bindsN fun _ _ _ _ _ _ us hl => match us, hl with | [_], _ => rfl)⟩⟩
end
section
variable {P : Program} {w : World} {K : PySem.W.Frag} {mg : Str → Option Value} {base h : Heap}
abbrev qL : Str := (envOfC "law" (defScope s_law) 0 0 .none).qual ++ "<lambda>"
theorem sc_u_law_told : FnScope ["deed", "e"] ["deed"] (defScope s_u_law_told) := ⟨rfl, rfl, rfl, by decide +kernel, rfl, by decide +kernel, by decide +kernel⟩
theorem t_told_of (X : K.In base) (G : base.Ns mainGlobals mg) (c : He.SaysX fa fn ts tf ex w h K) {f : Addr} {cdv : Value} (hcd : cdv = .ref (He.cT K ("law", none)).1) (TB : LamX.TabB base mg (He.cT K ("law", none)).1 (He.cT K ("law", none)).2) (A : Around) (outer : List Env) (s : Shared) (H : Hp) (E : XK) (hr : Room 26 (A.deeper (envOfC "law" (defScope s_law) s.heap.objs.size f cdv))) :
    ToldB (cxOf (L2N.CX P w) P w K mg base ["script", "k", "more", "stand", "move", "bad", "told", "none", "match", "word", "text"] "law" (defScope s_law) f cdv A outer s H E) (lawB P w K mg (clAK K) (exAK K) (lawT K qL)) (lawT K qL) "_law_told" 8 F_u_law_word 24 (He.cT K ("law", none)).1 (He.cT K ("law", none)).2 := by
  obtain ⟨fdT, FT⟩ := c.t.d.def_ 27 (d := dd_u_law_told) rfl
  obtain ⟨fdW, FW⟩ := c.t.d.def_ 26 (d := dd_u_law_word) rfl
  have hX : ∀ c1, c1 < 8 → FnX P w K mg base (lawB P w K mg (clAK K) (exAK K) (lawT K qL)) 1 _ fdW "e" (exAK K c1) (F_u_law_word c1) := fun c1 hc1 => fn_ofX (B := lawB P w K mg (clAK K) (exAK K) (lawT K qL)) FW sc_u_law_word fun cdv A outer s H p h1 hz hr => b_u_law_word (He.free_ok X G (c.t.d.fact 44 rfl)) (He.free_ok X G (c.t.d.fact 48 rfl)) (He.free_ok X G (c.t.d.fact 49 rfl)) (He.free_ok X G (c.t.d.fact 57 rfl)) (e_BadCount_of X G c) (e_BadMove_of X G c) (e_BadResult_of X G c) (e_BadStand_of X G c) (e_BadText_of X G c) (e_NoGame_of X G c) (e_Nothing_of X G c) (e_Over_of X G c) (errB_ok ((He.ba (He.ba (He.ba (He.ba (He.ba (He.ba (He.ba (He.ba (He.ba (He.ba (He.ba (He.ba c.more).2).2).2).2).2).2).2).2).2).2).2).1)).1 (errB_ok ((He.ba (He.ba (He.ba (He.ba (He.ba (He.ba (He.ba (He.ba (He.ba (He.ba (He.ba (He.ba c.more).2).2).2).2).2).2).2).2).2).2).2).1)).2.1 (errB_ok ((He.ba (He.ba (He.ba (He.ba (He.ba (He.ba (He.ba (He.ba (He.ba (He.ba (He.ba (He.ba c.more).2).2).2).2).2).2).2).2).2).2).2).1)).2.2.1 c1 hc1 cdv A outer s H p h1 hz hr
  refine ⟨⟨"deed", _, _, fdT, _, _, _, ["deed", "e"], He.glo_ok X G (c.t.d.fact 27 rfl), FT, (FT.bindsN fun _ _ _ _ _ _ us hl => match us, hl with | [_], _ => rfl), sc_u_law_told, rfl, .inl rfl, rfl, rfl, fun cdv2 => ?_, exmB_of (B := lawB P w K mg (clAK K) (exAK K) (lawT K qL)) ((He.ba (He.ba (He.ba (He.ba (He.ba (He.ba (He.ba (He.ba (He.ba (He.ba (He.ba (He.ba c.more).2).2).2).2).2).2).2).2).2).2).2).1) rfl rfl⟩, rfl, TB, by rw [hcd] <;> rfl, List.mem_cons_self, fun p hp _ => by have e : p = _ := List.mem_singleton.mp hp; rw [e] <;> rfl⟩
  exact told_givesN (k := 1) rfl (hr.mono (by omega)) (by decide +kernel) (by decide +kernel) hX (by decide +kernel) (He.glo_ok X G (c.t.d.fact 41 rfl)) (by decide +kernel) (He.glo_ok X G (c.t.d.fact 26 rfl)) FW.kp (FW.bindsN fun _ _ _ _ _ _ us hl => match us, hl with | [_], _ => rfl)
end
theorem law_facts {w : World} {K : PySem.W.Frag} {mg : Str → Option Value} {h : Heap} {f : Addr} (X : K.In h) (G : h.Ns mainGlobals mg) (hf : mg "law" = some (.ref f)) (c : He.SaysX fa fn ts tf ex w h K)
    (hlaw : ∀ ns : List Int, ns.length ≤ 63 → (∀ z ∈ ns, Builtin.Int.intBits z ≤ 1048576) → ∃ S', g_law (startX 11 [.d (.lst (ns.map .int))]) [] = .ret (.d (.bl true)) S') :
    LamX.LawAtS PySem.Challenge.rw_menleap_k92_matches_refused w K (L2N.CX (PySem.Challenge.rw_menleap_k92_matches_refused).prog w) 27 63 "script" mg f h := by
  obtain ⟨fd, F⟩ := c.t.d.def_ 29 (d := dd_law) rfl
  have e := hf.symm.trans (He.glo_ok X G (c.t.d.fact 29 rfl))
  cases e
  have b := FunD.bindsA (ps := ["script"]) F fun _ _ _ _ _ _ us hl => match us, hl with | [_], _ => rfl
  refine law_at (q := qL) (N := ["script", "k", "more", "stand", "move", "bad", "told", "none", "match", "word", "text"]) (g := g_law) (B0 := lawB (PySem.Challenge.rw_menleap_k92_matches_refused).prog w K mg (clAK K) (exAK K) (lawT K qL)) c ((He.ba (He.ba (He.ba (He.ba (He.ba (He.ba (He.ba (He.ba (He.ba (He.ba (He.ba (He.ba c.more).2).2).2).2).2).2).2).2).2).2).2).2) X F rfl sc_law (fun s v => b s [v] rfl) rfl (fun base X G TB A outer s H E hr => ?_) hlaw
  let P : Program := (PySem.Challenge.rw_menleap_k92_matches_refused).prog
  exact b_law (P := (PySem.Challenge.rw_menleap_k92_matches_refused).prog) (He.free_ok X G (c.t.d.fact 50 rfl)) (He.free_ok X G (c.t.d.fact 51 rfl)) (He.free_ok X G (c.t.d.fact 52 rfl)) (He.free_ok X G (c.t.d.fact 53 rfl)) (He.free_ok X G (c.t.d.fact 54 rfl)) ((cl_Match_of (P := P) (mg := mg) c).cv (JP.tabs (lawT K qL))) ((h_u_law_bad_texts_of X G c).cv (JP.tabs (lawT K qL))) ((h_u_law_cell_of X G c).cv (JP.tabs (lawT K qL))) ((h_u_law_drawn_of X G c).cv (JP.tabs (lawT K qL))) ((h_begin_of X G c).cv (JP.tabs (lawT K qL))) ((h_moves_moves_of X G c).cv (JP.tabs (lawT K qL))) ((h_written_move_of X G c).cv (JP.tabs (lawT K qL))) ((hm_read_match_of X G c).cvM (fun _ _ _ => trivial) (JP.tabs (lawT K qL))) ((hm_written_match_of X G c).cvM (fun _ _ _ => trivial) (JP.tabs (lawT K qL))) ((h_Match_left_of X G c).cv (fun _ _ _ => trivial) (JP.tabs (lawT K qL))) ((h_Match_moves_of X G c).cv (fun _ _ _ => trivial) (JP.tabs (lawT K qL))) ((h_Match_play_of X G c).cv (fun _ _ _ => trivial) (JP.tabs (lawT K qL))) ((h_Match_state_of X G c).cv (fun _ _ _ => trivial) (JP.tabs (lawT K qL))) ((h_Match_init_of X G c).cv (fun _ _ _ => trivial) (JP.tabs (lawT K qL))) _ (fun A outer s H E hr => t_told_of X G c rfl TB A outer s H E hr) A outer s H E hr
end Dn

set_option Elab.async false
set_option linter.all false
set_option maxRecDepth 100000
set_option maxHeartbeats 4000000
namespace Dn
open PySem L2 PyProof.Rows

/-! ### cells drawn -/
theorem small_mono {b c : Nat} {i : Int} (h : small b i = true) (hb : b ≤ c) : small c i = true := by
  unfold small at *
  exact decide_eq_true (Nat.lt_of_lt_of_le (of_decide_eq_true h) (Nat.pow_le_pow_right (by decide) hb))
theorem small_of {b : Nat} {i : Int} (h : i.natAbs < 2 ^ b) : small b i = true := decide_eq_true h
theorem mulI_r {i j : Int} (h : small 63 j = true) : mulI (.int i) (.int j) = some (.int (i * j)) := by
  simp [mulI, mulD, h]
theorem mulI_b {i j : Int} (h1 : small 400000 i = true) (h2 : small 400000 j = true) : mulI (.int i) (.int j) = some (.int (i * j)) := by
  simp [mulI, mulD, h1, h2]
theorem modI {i j : Int} (h : 0 < j) : modD (.int i) (.int j) = some (.int (i % j)) := by simp [modD, h]
theorem fdivI {i j : Int} (h : 0 < j) (h2 : small 8000 j = true) : fdivD (.int i) (.int j) = some (.int (i / j)) := by simp [fdivD, h, h2]
def drw (c k : Int) : Int :=
  let m := (c * 6364136223846793005 + (k + 1) * 1442695040888963407) % 340282366920938463463374607431768211507
  let m := m * m % 340282366920938463463374607431768211297
  let m := (m % 18446744073709551557 + 1) * (m / 18446744073709551557 + 1) * m
  m % 340282366920938463463374607431768211507
theorem drw_pos (c k : Int) : 0 ≤ drw c k := Int.emod_nonneg _ (by decide)
theorem drw_lt (c k : Int) : drw c k < 340282366920938463463374607431768211507 := Int.emod_lt_of_pos _ (by decide)
theorem drawn_ok (c k : Int) : F_u_law_drawn [.int c, .int k] = .ok (.int (drw c k)) := by
  have s1 : ∀ x : Int, 0 ≤ x → x < 2 ^ 200 → small 400000 x = true := fun x h0 h1 => small_mono (b := 200) (small_of (by omega)) (by decide)
  generalize hm1 : (c * 6364136223846793005 + (k + 1) * 1442695040888963407) % 340282366920938463463374607431768211507 = m1
  have a1 : 0 ≤ m1 := by rw [← hm1]; exact Int.emod_nonneg _ (by decide)
  have b1 : m1 < 340282366920938463463374607431768211507 := by rw [← hm1]; exact Int.emod_lt_of_pos _ (by decide)
  generalize hm2 : m1 * m1 % 340282366920938463463374607431768211297 = m2
  have a2 : 0 ≤ m2 := by rw [← hm2]; exact Int.emod_nonneg _ (by decide)
  have b2 : m2 < 340282366920938463463374607431768211297 := by rw [← hm2]; exact Int.emod_lt_of_pos _ (by decide)
  have a3 : 0 ≤ m2 % 18446744073709551557 := Int.emod_nonneg _ (by decide)
  have b3 : m2 % 18446744073709551557 < 18446744073709551557 := Int.emod_lt_of_pos _ (by decide)
  have a4 : 0 ≤ m2 / 18446744073709551557 := Int.ediv_nonneg a2 (by decide)
  have b4 : m2 / 18446744073709551557 ≤ m2 := Int.ediv_le_self _ a2
  have h1 : small 400000 (m2 % 18446744073709551557 + 1) = true := s1 _ (by omega) (by omega)
  have h2 : small 400000 (m2 / 18446744073709551557 + 1) = true := s1 _ (by omega) (by omega)
  have h3 : small 400000 ((m2 % 18446744073709551557 + 1) * (m2 / 18446744073709551557 + 1)) = true := by
    refine small_mono (b := 400) (small_of ?_) (by decide)
    rw [Int.natAbs_mul]
    calc _ < 2 ^ 200 * 2 ^ 200 := Nat.mul_lt_mul'' (by omega) (by omega)
      _ = 2 ^ 400 := by rw [← Nat.pow_add]
  simp [F_u_law_drawn, g_u_law_drawn, pureOf, startD, sSeq, sSet, sRet, d2, dVar, dC, rd2, asD, mulI_r (show small 63 6364136223846793005 = true by decide), mulI_r (show small 63 1442695040888963407 = true by decide), addD, modI (show (0 : Int) < 340282366920938463463374607431768211507 by decide), hm1, mulI_b (s1 m1 a1 (by omega)) (s1 m1 a1 (by omega)),
    modI (show (0 : Int) < 340282366920938463463374607431768211297 by decide), hm2, modI (show (0 : Int) < 18446744073709551557 by decide), fdivI (show (0 : Int) < 18446744073709551557 by decide) (by decide), mulI_b h1 h2, mulI_b h3 (s1 m2 a2 (by omega)), retOf, toD, drw]
theorem okDs_ints (ns : List Int) (n : Nat) : okDs n (ns.map .int) = true := by
  rw [okDs_all, List.all_eq_true]
  intro x hx
  obtain ⟨i, _, rfl⟩ := List.mem_map.mp hx
  simp [okD]
theorem cell_ok (ns : List Int) (hn : ns.length ≤ 63) (k : Nat) : ∃ c : Int, F_u_law_cell [.lst (ns.map .int), .int k] = .ok (.int c) := by
  cases ns with
  | nil =>
    refine ⟨(k : Int) * 7919, ?_⟩
    simp [F_u_law_cell, g_u_law_cell, pureOf, startD, sSeq, sIf, sRet, tB, d2, dVar, dC, dLst, dA, aNil, fits, toDs, rd2, asD, eqD, okD, okDs, eqv, eqvs, bOf, mulI_r (show small 63 7919 = true by decide), retOf, toD]
  | cons n ns =>
    have hlen : (0 : Int) < ((ns.length + 1 : Nat) : Int) := by omega
    have hx : (k : Int) % ((ns.length + 1 : Nat) : Int) = ((k % (ns.length + 1) : Nat) : Int) := (Int.natCast_emod _ _).symm
    have hlt : k % (ns.length + 1) < ns.length + 1 := Nat.mod_lt _ (by omega)
    have hget : ((n :: ns).map D.int)[k % (ns.length + 1)]? = some (.int ((n :: ns)[k % (ns.length + 1)]'hlt)) := by
      rw [List.getElem?_map, List.getElem?_eq_getElem hlt]; rfl
    have hat : L2.atI ((n :: ns).map D.int) ((k : Int) % ((ns.length + 1 : Nat) : Int)) = some (.int ((n :: ns)[k % (ns.length + 1)]'hlt)) := by
      rw [hx]; unfold L2.atI L2.ixN
      rw [if_pos (by omega), if_pos (by rw [List.length_map, List.length_cons]; omega), Option.bind_some, Int.toNat_natCast, hget]
    have ho : okD 60 (.lst ((n :: ns).map .int)) = true := by rw [okD]; exact okDs_ints _ _
    have hd : small 8000 ((ns.length + 1 : Nat) : Int) = true := small_mono (b := 64) (small_of (by simp at hn; omega)) (by decide)
    refine ⟨(n :: ns)[k % (ns.length + 1)]'hlt + (k : Int) / ((ns.length + 1 : Nat) : Int) * 104729, ?_⟩
    have e1 : eqD (.lst ((n :: ns).map .int)) (.lst []) = some (.bl false) := by
      unfold eqD; rw [ho]; simp [okD, okDs, eqv, eqvs]
    have e2 : ∀ S, kLen [.d (.lst ((n :: ns).map .int))] S = .ok (.d (.int ((ns.length + 1 : Nat) : Int))) S := fun S => by
      simp [kLen, lenV, lstItems]
    have e3 : ∀ S, kIx (.d (.lst ((n :: ns).map .int))) (.d (.int ((k : Int) % ((ns.length + 1 : Nat) : Int)))) S = .ok (.d (.int ((n :: ns)[k % (ns.length + 1)]'hlt))) S := fun S => by
      unfold kIx look1
      simp only [ixV, asD, Option.bind_some, ixD, hat, Option.map_some, Out.of_some]
    generalize hN : (n :: ns).map D.int = N at *
    generalize hL : ((ns.length + 1 : Nat) : Int) = L at *
    simp [F_u_law_cell, g_u_law_cell, pureOf, startD, sSeq, sIf, sRet, sNil, tB, d2, dVar, dC, dLst, dA, aNil, aCons, fits, toDs, rd2, asD, e1, bOf, e2, modI hlen, e3, fdivI hlen hd, mulI_r (show small 63 104729 = true by decide), addD, retOf, toD]

theorem sSeq_nx {f g : DS} {sl sl1 : Sl} {S S1 : Sto} (h : f sl S = .nx sl1 S1) : sSeq f g sl S = g sl1 S1 := by unfold sSeq; rw [h]
theorem loop_rng (i : Nat) (b : DS) (n : Nat) (Inv : Sl → Sto → Prop) (step : ∀ k : Nat, k < n → ∀ sl S, Inv sl S → ∃ sl' S', b (sl.set i (some (.d (.int k)))) S = .nx sl' S' ∧ Inv sl' S') :
    ∀ (fuel k : Nat) (sl : Sl) (S : Sto), k ≤ n → fuel = n - k + 1 → Inv sl S → ∃ sl' S', loopG (fun _ => some (rngD 0 n)) (nName i) b fuel k sl S = .nx sl' S' ∧ Inv sl' S'
  | 0, k, sl, S, hk, hf, h => by omega
  | fuel + 1, k, sl, S, hk, hf, h => by
    rw [loopG]
    dsimp only
    by_cases hlt : k < n
    · have e : (rngD 0 n)[k]? = some (.d (.int k)) := by simp [rngD, hlt]
      rw [e]
      obtain ⟨sl1, S1, h1, h2⟩ := step k hlt sl S h
      simp only [nName, h1]
      exact loop_rng i b n Inv step fuel (k + 1) sl1 S1 hlt (by omega) h2
    · have e : (rngD 0 n)[k]? = none := by simp [rngD]; omega
      rw [e]
      exact ⟨sl, S, rfl, h⟩
theorem law_loop {f : DI} {i n : Nat} {b : DS} {sl : Sl} {Inv : Sl → Sto → Prop} (hIt : f sl [] = .ok (fun _ => some (rngD 0 n)) []) (h0 : Inv sl []) (step : ∀ k : Nat, k < n → ∀ sl S, Inv sl S → ∃ sl' S', b (sl.set i (some (.d (.int k)))) S = .nx sl' S' ∧ Inv sl' S') :
    ∃ S', sSeq (sFor f (nName i) b) (sRet (dC (.bl true))) sl [] = .ret (.d (.bl true)) S' := by
  obtain ⟨sl', S', h1, h2⟩ := loop_rng i b n Inv step (n + 1) 0 sl [] (Nat.zero_le _) rfl h0
  refine ⟨S', ?_⟩
  rw [sSeq_nx (sl1 := sl') (S1 := S')]
  · rfl
  · unfold sFor
    rw [hIt]
    rw [Out.fl_ok]
    unfold forK
    simpa [rngD] using h1
def Ends (n : Nat) (Inv : Sl → Sto → Prop) (o : Fl) : Prop := ∃ sl' S', gcFl n o = .nx sl' S' ∧ Inv sl' S'
theorem Ends.seq {n : Nat} {Inv : Sl → Sto → Prop} {f g : DS} {sl sl1 : Sl} {S S1 : Sto} (h : f sl S = .nx sl1 S1) (h2 : Ends n Inv (g sl1 S1)) : Ends n Inv (sSeq f g sl S) := by
  rw [sSeq_nx h]; exact h2
theorem Ends.set {n i : Nat} {Inv : Sl → Sto → Prop} {f : DE} {g : DS} {sl : Sl} {S S1 : Sto} {x : Val} (h : f sl S = .ok x S1) (h2 : Ends n Inv (g (sl.set i (some x)) S1)) : Ends n Inv (sSeq (sSet i f) g sl S) :=
  Ends.seq (sl1 := sl.set i (some x)) (S1 := S1) (by unfold sSet; rw [h]; rfl) h2
end Dn

set_option Elab.async false
set_option linter.all false
set_option maxRecDepth 100000
set_option maxHeartbeats 4000000
/-! Light rules, for laws that are finite (no board mathematics before them). -/
namespace Dn
open PySem L2 PyProof.Rows

/-! ### readings unfolded -/
section
variable (f g : DS) (a e x : DE) (u v : DA) (t t2 : DT) (sl : Sl) (S : Sto) (i n : Nat) (d : D)
@[simp] theorem u_sSeq : sSeq f g sl S = match f sl S with
  | .nx sl' S' => g sl' S'
  | o => o := by unfold sSeq; cases f sl S <;> rfl
@[simp] theorem u_sNil : sNil sl S = .nx sl S := rfl
@[simp] theorem u_sExpr : sExpr a sl S = (a sl S).fl sl fun _ S1 => .nx sl S1 := rfl
@[simp] theorem u_sRet : sRet a sl S = (a sl S).fl sl fun x S1 => .ret x S1 := rfl
@[simp] theorem u_sSet : sSet i a sl S = (a sl S).fl sl fun x S1 => .nx (sl.set i (some x)) S1 := rfl
@[simp] theorem u_sIf : sIf t f g sl S = (t sl S).fl sl fun c S1 => if c = true then f sl S1 else g sl S1 := rfl
@[simp] theorem u_sRaise : sRaise n sl S = .exc n sl S := rfl
@[simp] theorem u_dVar : dVar i sl S = match sl[i]? with
  | some (some x) => .ok x S
  | _ => .bad := rfl
@[simp] theorem u_dC : dC d sl S = .ok (.d d) S := rfl
@[simp] theorem u_d1 (k : Val → Sto → Out Val) : d1 a k sl S = (a sl S).bind k := rfl
@[simp] theorem u_d2 (k : Val → Val → Sto → Out Val) : d2 a e k sl S = (a sl S).bind fun x S1 => (e sl S1).bind fun y S2 => k x y S2 := rfl
@[simp] theorem u_dA (k : List Val → Sto → Out Val) : dA u k sl S = (u sl S).bind k := rfl
@[simp] theorem u_aNil : aNil sl S = .ok [] S := rfl
@[simp] theorem u_aCons : aCons a u sl S = (a sl S).bind fun x S1 => (u sl S1).bind fun xs S2 => .ok (x :: xs) S2 := rfl
@[simp] theorem u_dTup : dTup u sl S = (u sl S).bind fun xs S => (toDs xs S).bind fun ds S1 => if fits ds then .ok (.d (.tup ds)) S1 else .bad := rfl
@[simp] theorem u_dLst : dLst u sl S = (u sl S).bind fun xs S => (toDs xs S).bind fun ds S1 => if fits ds then .ok (.d (.lst ds)) S1 else .bad := rfl
@[simp] theorem u_cLst : cLst u sl S = (u sl S).bind fun xs S => if fits xs then .ok (.r S.length) (S ++ [.lst xs]) else .bad := rfl
@[simp] theorem u_cDct : cDct sl S = .ok (.r S.length) (S ++ [.dct []]) := rfl
@[simp] theorem u_dIf : dIf t a e sl S = (t sl S).bind fun c S1 => if c = true then a sl S1 else e sl S1 := rfl
@[simp] theorem u_tB : tB a sl S = (a sl S).bind bOf := rfl
@[simp] theorem u_tAnd : Dn.tAnd t t2 sl S = (t sl S).bind fun c S1 => if c = true then t2 sl S1 else .ok false S1 := rfl
@[simp] theorem u_tOr : Dn.tOr t t2 sl S = (t sl S).bind fun c S1 => if c = true then .ok true S1 else t2 sl S1 := rfl
@[simp] theorem u_tNot : Dn.tNot t sl S = (t sl S).bind fun c S1 => .ok (!c) S1 := rfl
@[simp] theorem u_tYes : tYesD sl S = .ok true S := rfl
@[simp] theorem u_dAnd : dAnd a e sl S = (a sl S).bind fun x S1 => (bOf x S1).bind fun c S2 => if c = true then e sl S2 else .ok (.d (.bl false)) S2 := rfl
@[simp] theorem u_dOr : dOr a e sl S = (a sl S).bind fun x S1 => (bOf x S1).bind fun c S2 => if c = true then .ok (.d (.bl true)) S2 else e sl S2 := rfl
@[simp] theorem u_dNot : dNot a sl S = (a sl S).bind fun x S1 => (bOf x S1).bind fun c S2 => .ok (.d (.bl (!c))) S2 := rfl
@[simp] theorem u_dCall (F : List D → Ret) : dCall F u sl S = (u sl S).bind fun xs S => (toDs xs S).bind fun ds S1 => retOut (F ds) S1 := rfl
@[simp] theorem u_dMt (p : Sto → Val → Bool) (k : Val → List Val → Sto → Out Val) : dMt p k a u sl S = (a sl S).bind fun x S1 => if p S1 x = true then (u sl S1).bind fun xs S2 => k x xs S2 else .bad := rfl
@[simp] theorem u_dChain (k k' : Val → Val → Sto → Out Val) : dChain a e x k k' sl S = (a sl S).bind fun x1 S1 => (e sl S1).bind fun y S2 => (k x1 y S2).bind fun z S3 => (bOf z S3).bind fun c S4 => if c = true then (x sl S4).bind fun w S5 => k' y w S5 else .ok (.d (.bl false)) S4 := rfl
@[simp] theorem u_toDs0 : toDs [] S = .ok [] S := rfl
@[simp] theorem u_toDs1 (xs : List Val) : toDs (.d d :: xs) S = (toDs xs S).bind fun ds S2 => .ok (d :: ds) S2 := rfl
@[simp] theorem u_asD : asD S (.d d) = some d := rfl
@[simp] theorem u_sAsg (k : DG) : sAsg a k sl S = (a sl S).fl sl fun x S1 => match k x sl S1 with
  | some (sl', S') => .nx sl' S'
  | none => .bad := rfl
end
@[simp] theorem addD_i (a b : Int) : addD (.int a) (.int b) = some (.int (a + b)) := rfl
@[simp] theorem subD_i (a b : Int) : subD (.int a) (.int b) = some (.int (a - b)) := rfl
@[simp] theorem negD_i (a : Int) : negD (.int a) = some (.int (-a)) := rfl
@[simp] theorem dLe_i (a b : Int) : dLe (.int a) (.int b) = some (.bl (decide (a ≤ b))) := rfl
@[simp] theorem dLt_i (a b : Int) : dLt (.int a) (.int b) = some (.bl (decide (a < b))) := rfl
@[simp] theorem dGe_i (a b : Int) : dGe (.int a) (.int b) = some (.bl (decide (b ≤ a))) := rfl
@[simp] theorem dGt_i (a b : Int) : dGt (.int a) (.int b) = some (.bl (decide (b < a))) := rfl
theorem eqD_int (a b : Int) : eqD (.int a) (.int b) = some (.bl (decide (a = b))) := by
  unfold eqD; simp [okD, eqv]; rfl
theorem toDs_map {α : Type} (d : α → D) (S : Sto) : ∀ l : List α, toDs (l.map fun a => Val.d (d a)) S = .ok (l.map d) S
  | [] => rfl
  | a :: l => by rw [List.map_cons, u_toDs1, toDs_map d S l]; rfl

theorem i_md (a b : Int) (S : Sto) (hb : 0 < b) : rd2 modD (.d (.int a)) (.d (.int b)) S = .ok (.d (.int (a % b))) S := by simp [rd2, modD, hb]
theorem i_ad (a b : Int) (S : Sto) : rd2 addD (.d (.int a)) (.d (.int b)) S = .ok (.d (.int (a + b))) S := by simp [rd2]
theorem i_sb (a b : Int) (S : Sto) : rd2 subD (.d (.int a)) (.d (.int b)) S = .ok (.d (.int (a - b))) S := by simp [rd2]
theorem i_dv (a b : Int) (S : Sto) (h1 : 0 < b) (h2 : small 8000 b = true) : rd2 fdivD (.d (.int a)) (.d (.int b)) S = .ok (.d (.int (a / b))) S := by simp [rd2, fdivD, h1, h2]
theorem i_eq (a b : Int) (S : Sto) : rd2 eqD (.d (.int a)) (.d (.int b)) S = .ok (.d (.bl (decide (a = b)))) S := by simp [rd2, eqD_int]
theorem i_gt (a b : Int) (S : Sto) : rd2 dGt (.d (.int a)) (.d (.int b)) S = .ok (.d (.bl (decide (b < a)))) S := by simp [rd2]
theorem dCall_ok {F : List D → Ret} {u : DA} {sl : Sl} {S S1 : Sto} {ds : List D} {d : D} (h1 : u sl S = .ok (ds.map Val.d) S1) (h2 : F ds = .ok d) : dCall F u sl S = .ok (.d d) S1 := by
  rw [u_dCall, h1, Out.bind_ok]
  have := toDs_map (fun d : D => d) S1 ds
  rw [List.map_id'] at this
  rw [show ds.map Val.d = ds.map (fun a => Val.d a) from rfl, this, Out.bind_ok, h2, retOut_ok]
theorem e_tup1 {e : DE} {sl : Sl} {S : Sto} {x : D} (h : e sl S = .ok (.d x) S) : dTup (aCons e aNil) sl S = .ok (.d (.tup [x])) S := by
  rw [u_dTup, u_aCons, h]; rfl
theorem e_tup2 {e e2 : DE} {sl : Sl} {S : Sto} {x y : D} (h : e sl S = .ok (.d x) S) (h2 : e2 sl S = .ok (.d y) S) : dTup (aCons e (aCons e2 aNil)) sl S = .ok (.d (.tup [x, y])) S := by
  rw [u_dTup, u_aCons, h, Out.bind_ok, u_aCons, h2]; rfl
theorem e_tup3 {e e2 e3 : DE} {sl : Sl} {S : Sto} {x y z : D} (h : e sl S = .ok (.d x) S) (h2 : e2 sl S = .ok (.d y) S) (h3 : e3 sl S = .ok (.d z) S) : dTup (aCons e (aCons e2 (aCons e3 aNil))) sl S = .ok (.d (.tup [x, y, z])) S := by
  rw [u_dTup, u_aCons, h, Out.bind_ok, u_aCons, h2, Out.bind_ok, u_aCons, h3]; rfl
theorem e_var {i : Nat} {sl : Sl} {S : Sto} {x : Val} (h : sl[i]? = some (some x)) : dVar i sl S = .ok x S := by rw [u_dVar, h]
theorem e_c {d : D} {sl : Sl} {S : Sto} : dC d sl S = .ok (.d d) S := rfl
theorem q_nil {sl : Sl} {S : Sto} : aNil sl S = .ok [] S := rfl
theorem q_cons {e : DE} {u : DA} {sl : Sl} {S : Sto} {x : Val} {xs : List Val} (h : e sl S = .ok x S) (h2 : u sl S = .ok xs S) : aCons e u sl S = .ok (x :: xs) S := by
  rw [u_aCons, h, Out.bind_ok, h2]; rfl
theorem q_seq {f g : DS} {sl sl1 : Sl} {S S1 : Sto} {o : Fl} (h : f sl S = .nx sl1 S1) (h2 : g sl1 S1 = o) : sSeq f g sl S = o := by rw [u_sSeq, h]; exact h2
theorem q_set {i : Nat} {a : DE} {g : DS} {sl : Sl} {S S1 : Sto} {x : Val} {o : Fl} (h : a sl S = .ok x S1) (h2 : g (sl.set i (some x)) S1 = o) : sSeq (sSet i a) g sl S = o := by rw [u_sSeq, u_sSet, h]; exact h2
theorem q_expr {a : DE} {g : DS} {sl : Sl} {S S1 : Sto} {x : Val} {o : Fl} (h : a sl S = .ok x S1) (h2 : g sl S1 = o) : sSeq (sExpr a) g sl S = o := by rw [u_sSeq, u_sExpr, h]; exact h2
theorem q_ret {a : DE} {sl : Sl} {S S1 : Sto} {x : Val} (h : a sl S = .ok x S1) : sRet a sl S = .ret x S1 := by rw [u_sRet, h]; rfl
theorem q_skip {t : DT} {f g : DS} {sl : Sl} {S S1 : Sto} {o : Fl} (h : t sl S = .ok false S1) (h2 : g sl S1 = o) : sSeq (sIf t f sNil) g sl S = o := by rw [u_sSeq, u_sIf, h]; exact h2
theorem q_tB {a : DE} {sl : Sl} {S S1 : Sto} {b : Bool} (h : a sl S = .ok (.d (.bl b)) S1) : tB a sl S = .ok b S1 := by rw [u_tB, h]; rfl
theorem q_2 {e a : DE} {k : Val → Val → Sto → Out Val} {sl : Sl} {S S1 S2 : Sto} {x y z : Val} {S3 : Sto} (h : e sl S = .ok x S1) (ha : a sl S1 = .ok y S2) (hk : k x y S2 = .ok z S3) : d2 e a k sl S = .ok z S3 := by rw [u_d2, h, Out.bind_ok, ha, Out.bind_ok, hk]
theorem q_A1 {e : DE} {k : List Val → Sto → Out Val} {sl : Sl} {S S1 : Sto} {x z : Val} {S3 : Sto} (h : e sl S = .ok x S1) (hk : k [x] S1 = .ok z S3) : dA (aCons e aNil) k sl S = .ok z S3 := by rw [u_dA, u_aCons, h, Out.bind_ok, u_aNil, Out.bind_ok, Out.bind_ok, hk]
theorem atI_nat {α : Type} {xs : List α} {i : Int} (h0 : 0 ≤ i) (h1 : i < xs.length) : L2.atI xs i = xs[i.toNat]? := by
  unfold L2.atI L2.ixN
  rw [if_pos h0, if_pos h1, Option.bind_some]
theorem e_ixS {e a : DE} {sl : Sl} {S : Sto} {x y z : D} (h : e sl S = .ok (.d x) S) (ha : a sl S = .ok (.d y) S) (hx : ixD x y = some z) : d2 e a kIx sl S = .ok (.d z) S := by
  rw [u_d2, h, Out.bind_ok, ha, Out.bind_ok]
  unfold kIx look1
  simp only [ixV, asD_d, Option.bind_some, hx, Option.map_some, Out.of_some]
def NX (L : Nat) (p : Sl) (o : Fl) : Prop := ∃ sl' S', o = .nx sl' S' ∧ sl'.take p.length = p ∧ sl'.length = L
section
variable {L : Nat} {p : Sl} {f g : DS} {sl sl1 : Sl} {S S1 : Sto} {i : Nat} {a : DE} {x : Val} {t : DT}
theorem n_seq (h : f sl S = .nx sl1 S1) (h2 : NX L p (g sl1 S1)) : NX L p (sSeq f g sl S) := by rw [u_sSeq, h]; exact h2
theorem n_set (h : a sl S = .ok x S1) (h2 : NX L p (g (sl.set i (some x)) S1)) : NX L p (sSeq (sSet i a) g sl S) := by rw [u_sSeq, u_sSet, h]; exact h2
theorem n_expr (h : a sl S = .ok x S1) (h2 : NX L p (g sl S1)) : NX L p (sSeq (sExpr a) g sl S) := by rw [u_sSeq, u_sExpr, h]; exact h2
theorem n_skip (h : t sl S = .ok false S1) (h2 : NX L p (g sl S1)) : NX L p (sSeq (sIf t f sNil) g sl S) := by rw [u_sSeq, u_sIf, h]; exact h2
theorem n_skip1 (h : t sl S = .ok false S1) (h2 : sl.take p.length = p ∧ sl.length = L) : NX L p (sIf t f sNil sl S) := by
  rw [u_sIf, h]; exact ⟨sl, S1, rfl, h2⟩
theorem NX.gc {o : Fl} (hp : gcSl 0 p = p) (h : NX L p o) : ∃ sl', gcFl 0 o = .nx sl' [] ∧ sl'.take p.length = p ∧ sl'.length = L := by
  obtain ⟨sl', S', rfl, h1, h2⟩ := h
  refine ⟨gcSl 0 sl', rfl, ?_, ?_⟩
  · have e : (gcSl 0 sl').take p.length = gcSl 0 (sl'.take p.length) := by unfold gcSl; rw [List.map_take]
    rw [e, h1, hp]
  · unfold gcSl; rw [List.length_map]; exact h2
theorem sl_split (h : sl.take p.length = p) : ∃ r, sl = p ++ r ∧ r.length = sl.length - p.length := by
  refine ⟨sl.drop p.length, ?_, by rw [List.length_drop]⟩
  have := (List.take_append_drop p.length sl).symm
  rw [h] at this; exact this
end
end Dn

set_option Elab.async false
set_option linter.all false
set_option maxRecDepth 100000
set_option maxHeartbeats 4000000
/-! The law of refused matches: all cases evaluated (printed by mkP92.py from P92.in). -/
namespace Dn
open PySem L2 PyProof.Rows
abbrev a92 : DS := (sSeq (sSeq (sSet 6 (cLst (aCons (dTold 8 F_u_law_word (dNew 2 4 M_Match_init (aCons (dVar 5) (aCons (dC .non) (aCons (dC .non) aNil))))) aNil))) (sExpr (dMt isLst kApp (dVar 6) (aCons (dTold 8 F_u_law_word (dCallM M_read_match (aCons (dVar 5) (aCons (dC .non) (aCons (dC .non) (aCons (dC .non) aNil)))))) aNil)))) (sIf (tB (d2 (dVar 6) (d2 (dLst (aCons (dTup (aCons (dC (.str [114, 101, 102, 117, 115, 101, 100])) (aCons (dC (.str [66, 97, 100, 83, 116, 97, 110, 100])) aNil))) aNil)) (dC (.int 2)) (rd2 repD)) (rd2 neD)))
    (sRet (dC (.bl false)))
    sNil))
abbrev r92 : DS := (sSeq (sFor (iSeq (dLst (aCons (dC (.int 0)) (aCons (dC (.int 1001)) (aCons (d1 (dC (.int 1)) (rd1 negD)) (aCons (dC .non) (aCons (dC (.bl true)) (aCons (dC (.str [53])) aNil)))))))) (nName 7)
    (sGc (sSeq (sSet 6 (cLst (aCons (dTold 8 F_u_law_word (dNew 2 4 M_Match_init (aCons (dVar 3) (aCons (dC (.int 5)) (aCons (dVar 7) aNil))))) aNil)))
    (sSeq (sExpr (dMt isLst kApp (dVar 6) (aCons (dTold 8 F_u_law_word (dCallM M_read_match (aCons (dVar 3) (aCons (dC (.int 5)) (aCons (dVar 7) (aCons (dC (.str [])) aNil)))))) aNil)))
    (sIf (tB (d2 (dVar 6) (d2 (dLst (aCons (dTup (aCons (dC (.str [114, 101, 102, 117, 115, 101, 100])) (aCons (dC (.str [66, 97, 100, 67, 111, 117, 110, 116])) aNil))) aNil)) (dC (.int 2)) (rd2 repD)) (rd2 neD)))
    (sRet (dC (.bl false)))
    sNil)))))
    (sSeq (sSet 8 (dNew 2 4 M_Match_init (aCons (dVar 3) (aCons (dC (.int 5)) (aCons (dC (.int 6)) aNil)))))
    (sSeq (sFor (iSeq (dLst (aCons (d1 (dC (.int 1)) (rd1 negD)) (aCons (dC (.int 1001)) (aCons (dC .non) (aCons (dC (.bl true)) (aCons (dC (.str [49])) aNil))))))) (nName 7)
    (sGc (sIf (tB (d2 (dTold 8 F_u_law_word (dMeth M_Match_play 2 (dVar 8) (aCons (dC .non) (aCons (dVar 7) aNil)))) (dTup (aCons (dC (.str [114, 101, 102, 117, 115, 101, 100])) (aCons (dC (.str [66, 97, 100, 67, 111, 117, 110, 116])) aNil))) (rd2 neD)))
    (sRet (dC (.bl false)))
    sNil)))
    (sSeq (sFor (iSeq (dLst (aCons (dC .non) (aCons (dTup aNil) (aCons (dTup (aCons (dTup (aCons (dC (.int 0)) (aCons (dC (.int 1)) aNil))) aNil)) (aCons (d1 (dVar 4) (rd1 rev3D)) (aCons (dA (aCons (dVar 4) aNil) (rdA1 lstOfD)) aNil))))))) (nName 7)
    (sGc (sSeq (sSet 6 (cLst (aCons (dTold 8 F_u_law_word (dMeth M_Match_play 2 (dVar 8) (aCons (dVar 7) (aCons (dC (.int 1)) aNil)))) aNil)))
    (sSeq (sExpr (dMt isLst kApp (dVar 6) (aCons (dTold 8 F_u_law_word (dMeth M_Match_play 2 (dVar 8) (aCons (dVar 7) (aCons (dC (.int 7)) aNil)))) aNil)))
    (sIf (tB (d2 (dVar 6) (d2 (dLst (aCons (dTup (aCons (dC (.str [114, 101, 102, 117, 115, 101, 100])) (aCons (dC (.str [66, 97, 100, 77, 111, 118, 101])) aNil))) aNil)) (dC (.int 2)) (rd2 repD)) (rd2 neD)))
    (sRet (dC (.bl false)))
    sNil)))))
    (sSeq (sIf (tB (d2 (dTup (aCons (dMeth M_Match_state 2 (dVar 8) aNil) (aCons (dMeth M_Match_left 2 (dVar 8) aNil) (aCons (dMeth M_Match_moves 2 (dVar 8) aNil) aNil)))) (dTup (aCons (dC (.str [111, 112, 101, 110])) (aCons (dTup (aCons (dC (.int 6)) (aCons (dC (.int 6)) aNil))) (aCons (dLst aNil) aNil)))) (rd2 neD)))
    (sRet (dC (.bl false)))
    sNil)
    (sSeq (sSet 9 (dCall F_written_move (aCons (dVar 3) (aCons (dVar 4) aNil))))
    (sSeq (sFor (iSeq (dCall F_u_law_bad_texts (aCons (dVar 3) (aCons (dVar 9) (aCons (d2 (dVar 3) (dC (.int 1)) kIx) aNil))))) (nName 10)
    (sGc (sIf (tB (d2 (dTold 8 F_u_law_word (dCallM M_read_match (aCons (dVar 3) (aCons (dC (.int 5)) (aCons (dC (.int 6)) (aCons (dVar 10) aNil)))))) (dTup (aCons (dC (.str [114, 101, 102, 117, 115, 101, 100])) (aCons (dC (.str [66, 97, 100, 84, 101, 120, 116])) aNil))) (rd2 neD)))
    (sRet (dC (.bl false)))
    sNil)))
    (sSeq (sIf (tB (d2 (dTold 8 F_u_law_word (dCallM M_read_match (aCons (dVar 3) (aCons (dC (.int 5)) (aCons (dC (.int 1000)) (aCons (d2 (dC (.str [108, 97, 116, 101, 61])) (d2 (dVar 3) (dC (.int 1)) kIx) (rd2 addD)) aNil)))))) (dTup (aCons (dC (.str [114, 101, 102, 117, 115, 101, 100])) (aCons (dC (.str [66, 97, 100, 84, 101, 120, 116])) aNil))) (rd2 neD)))
    (sRet (dC (.bl false)))
    sNil)
    (sFor (iSeq (dLst (aCons (dC (.str [])) (aCons (d2 (dVar 9) (dC (.str [58, 54])) (rd2 addD)) (aCons (d2 (dC (.str [108, 97, 116, 101, 61])) (d2 (dVar 3) (dC (.int 1)) kIx) (rd2 addD)) (aCons (d2 (dC (.str [103, 105, 118, 101, 110, 61])) (d2 (dVar 3) (dC (.int 1)) kIx) (rd2 addD)) aNil)))))) (nName 10)
    (sGc (sIf (tB (d2 (dCallM M_written_match (aCons (dCallM M_read_match (aCons (dVar 3) (aCons (dC (.int 5)) (aCons (dC (.int 6)) (aCons (dVar 10) aNil))))) aNil)) (dVar 10) (rd2 neD)))
    (sRet (dC (.bl false)))
    sNil)))))))))))
abbrev c92 : DS := (sSeq (sSet 2 (dCall F_u_law_drawn (aCons (dCall F_u_law_cell (aCons (dVar 0) (aCons (dVar 1) aNil))) (aCons (dVar 1) aNil))))
    (sSeq (sSet 3 (dCall F_begin (aCons (d2 (dC (.int 4)) (d2 (dVar 2) (dC (.int 4)) (rd2 modD)) (rd2 addD)) (aCons (d2 (dC (.int 4)) (d2 (d2 (dVar 2) (dC (.int 8)) (rd2 fdivD)) (dC (.int 4)) (rd2 modD)) (rd2 addD)) (aCons (dC (.int 1)) aNil)))))
    (sSeq (sSet 4 (d2 (dCall F_moves_moves (aCons (dVar 3) aNil)) (d2 (d2 (dVar 2) (dC (.int 64)) (rd2 fdivD)) (dA (aCons (dCall F_moves_moves (aCons (dVar 3) aNil)) aNil) kLen) (rd2 modD)) kIx))
    (sSeq (sSet 5 (d2 (dLst (aCons (dC .non) (aCons (d2 (dVar 3) (dC (.int 0)) kIx) (aCons (dTup (aCons (d2 (dVar 3) (dC (.int 0)) kIx) (aCons (dC (.str [120])) aNil))) aNil)))) (d2 (d2 (dVar 2) (dC (.int 1024)) (rd2 fdivD)) (dC (.int 3)) (rd2 modD)) kIx))
    (sSeq (sSet 6 (cLst (aCons (dTold 8 F_u_law_word (dNew 2 4 M_Match_init (aCons (dVar 5) (aCons (dC .non) (aCons (dC .non) aNil))))) aNil)))
    (sSeq (sExpr (dMt isLst kApp (dVar 6) (aCons (dTold 8 F_u_law_word (dCallM M_read_match (aCons (dVar 5) (aCons (dC .non) (aCons (dC .non) (aCons (dC .non) aNil)))))) aNil)))
    (sSeq (sIf (tB (d2 (dVar 6) (d2 (dLst (aCons (dTup (aCons (dC (.str [114, 101, 102, 117, 115, 101, 100])) (aCons (dC (.str [66, 97, 100, 83, 116, 97, 110, 100])) aNil))) aNil)) (dC (.int 2)) (rd2 repD)) (rd2 neD)))
    (sRet (dC (.bl false)))
    sNil)
    (sSeq (sIf (tB (d2 (dTold 8 F_u_law_word (dNew 2 4 M_Match_init (aCons (dVar 3) (aCons (d2 (dLst (aCons (dC (.int 0)) (aCons (dC (.int 101)) (aCons (dC .non) (aCons (dC (.bl true)) aNil))))) (d2 (d2 (dVar 2) (dC (.int 4096)) (rd2 fdivD)) (dC (.int 4)) (rd2 modD)) kIx) (aCons (dC (.int 5)) aNil))))) (dTup (aCons (dC (.str [114, 101, 102, 117, 115, 101, 100])) (aCons (dC (.str [66, 97, 100, 67, 111, 117, 110, 116])) aNil))) (rd2 neD)))
    (sRet (dC (.bl false)))
    sNil)
    r92))))))))

def chk92 (o : Fl) : Sl × Nat := match o with
  | .nx sl _ => (sl.take 1, sl.length)
  | _ => ([], 0)
theorem of_chk92 {o : Fl} {x : Val} (h : chk92 o = ([some x], 11)) : NX 11 [some x] o := by
  cases o with
  | nx sl S => simp [chk92] at h; exact ⟨sl, S, rfl, h.1, h.2⟩
  | _ => simp [chk92] at h
abbrev st92 (R : D) : D := .tup [R, .str [119]]
abbrev bs92 : D := .tup [.str [114, 101, 102, 117, 115, 101, 100], .str [66, 97, 100, 83, 116, 97, 110, 100]]
abbrev bc92 : D := .tup [.str [114, 101, 102, 117, 115, 101, 100], .str [66, 97, 100, 67, 111, 117, 110, 116]]
abbrev o2 : Cell := .obj 2 [none, none, none, none]
abbrev o1 : Cell := .obj 1 [none, none, none, none]
abbrev sA92 : Sto := [o2, o1, .lst [.d bs92, .d bs92], o2, o1]
abbrev sB92 : Sto := [o2, o1, .lst [.d bs92, .d bs92], o2, o1, o2, o1]
structure Case92 (a b : Int) (R : D) (ms : List D) : Prop where
  beg : F_begin [.int (4 + a), .int (4 + b), .int 1] = .ok (st92 R)
  mv : F_moves_moves [st92 R] = .ok (.lst ms)
  ne : 0 < ms.length
  le : ms.length < 10
  bad : ∀ d ∈ [D.non, R, .tup [R, .str [120]]], ∀ (N k m f : D) (y6 y7 y8 y9 y10 : Option Val), a92 [some (.d N), some (.d k), some (.d m), some (.d (st92 R)), some (.d f), some (.d d), y6, y7, y8, y9, y10] [] = .nx [some (.d N), some (.d k), some (.d m), some (.d (st92 R)), some (.d f), some (.d d), some (.r 2), y7, y8, y9, y10] sA92
  bnd : ∀ v ∈ [D.int 0, .int 101, .non, .bl true], newK 2 4 M_Match_init [.d (st92 R), .d v, .d (.int 5)] sA92 = .exc 3 sB92
  all : ∀ f ∈ ms, ∀ (N k m d : D) (y7 y8 y9 y10 : Option Val), chk92 (r92 [some (.d N), some (.d k), some (.d m), some (.d (st92 R)), some (.d f), some (.d d), some (.r 2), y7, y8, y9, y10] sB92) = ([some (.d N)], 11)
abbrev R00 : D := .tup [.str [32, 98, 32, 98], .str [46, 32, 46, 32], .str [32, 46, 32, 46], .str [119, 32, 119, 32]]
abbrev M00 : List D := [.tup [.tup [.int 3, .int 0], .tup [.int 2, .int 1]], .tup [.tup [.int 3, .int 2], .tup [.int 2, .int 1]], .tup [.tup [.int 3, .int 2], .tup [.int 2, .int 3]]]
theorem r00 (N k m d : D) (y7 y8 y9 y10 : Option Val) : (M00.map fun f => chk92 (r92 [some (.d N), some (.d k), some (.d m), some (.d (st92 R00)), some (.d f), some (.d d), some (.r 2), y7, y8, y9, y10] sB92)) = M00.map fun _ => ([some (.d N)], 11) := by kernel_rfl
theorem b00 (N k m f : D) (y6 y7 y8 y9 y10 : Option Val) : ([D.non, R00, .tup [R00, .str [120]]].map fun d => a92 [some (.d N), some (.d k), some (.d m), some (.d (st92 R00)), some (.d f), some (.d d), y6, y7, y8, y9, y10] []) = [D.non, R00, .tup [R00, .str [120]]].map fun d => .nx [some (.d N), some (.d k), some (.d m), some (.d (st92 R00)), some (.d f), some (.d d), some (.r 2), y7, y8, y9, y10] sA92 := by kernel_rfl
theorem k00 : Case92 0 0 R00 M00 where
  beg := by kernel_rfl
  mv := by kernel_rfl
  ne := by decide
  le := by decide
  bad := fun d hd N k m f y6 y7 y8 y9 y10 => List.map_inj_left.mp (b00 N k m f y6 y7 y8 y9 y10) d hd
  bnd := List.forall_mem_cons.mpr ⟨by kernel_rfl, List.forall_mem_cons.mpr ⟨by kernel_rfl, List.forall_mem_cons.mpr ⟨by kernel_rfl, List.forall_mem_cons.mpr ⟨by kernel_rfl, List.forall_mem_nil _⟩⟩⟩⟩
  all := fun f hf N k m d y7 y8 y9 y10 => List.map_inj_left.mp (r00 N k m d y7 y8 y9 y10) f hf
abbrev R01 : D := .tup [.str [32, 98, 32, 98, 32], .str [46, 32, 46, 32, 46], .str [32, 46, 32, 46, 32], .str [119, 32, 119, 32, 119]]
abbrev M01 : List D := [.tup [.tup [.int 3, .int 0], .tup [.int 2, .int 1]], .tup [.tup [.int 3, .int 2], .tup [.int 2, .int 1]], .tup [.tup [.int 3, .int 2], .tup [.int 2, .int 3]], .tup [.tup [.int 3, .int 4], .tup [.int 2, .int 3]]]
theorem r01 (N k m d : D) (y7 y8 y9 y10 : Option Val) : (M01.map fun f => chk92 (r92 [some (.d N), some (.d k), some (.d m), some (.d (st92 R01)), some (.d f), some (.d d), some (.r 2), y7, y8, y9, y10] sB92)) = M01.map fun _ => ([some (.d N)], 11) := by kernel_rfl
theorem b01 (N k m f : D) (y6 y7 y8 y9 y10 : Option Val) : ([D.non, R01, .tup [R01, .str [120]]].map fun d => a92 [some (.d N), some (.d k), some (.d m), some (.d (st92 R01)), some (.d f), some (.d d), y6, y7, y8, y9, y10] []) = [D.non, R01, .tup [R01, .str [120]]].map fun d => .nx [some (.d N), some (.d k), some (.d m), some (.d (st92 R01)), some (.d f), some (.d d), some (.r 2), y7, y8, y9, y10] sA92 := by kernel_rfl
theorem k01 : Case92 0 1 R01 M01 where
  beg := by kernel_rfl
  mv := by kernel_rfl
  ne := by decide
  le := by decide
  bad := fun d hd N k m f y6 y7 y8 y9 y10 => List.map_inj_left.mp (b01 N k m f y6 y7 y8 y9 y10) d hd
  bnd := List.forall_mem_cons.mpr ⟨by kernel_rfl, List.forall_mem_cons.mpr ⟨by kernel_rfl, List.forall_mem_cons.mpr ⟨by kernel_rfl, List.forall_mem_cons.mpr ⟨by kernel_rfl, List.forall_mem_nil _⟩⟩⟩⟩
  all := fun f hf N k m d y7 y8 y9 y10 => List.map_inj_left.mp (r01 N k m d y7 y8 y9 y10) f hf
abbrev R02 : D := .tup [.str [32, 98, 32, 98, 32, 98], .str [46, 32, 46, 32, 46, 32], .str [32, 46, 32, 46, 32, 46], .str [119, 32, 119, 32, 119, 32]]
abbrev M02 : List D := [.tup [.tup [.int 3, .int 0], .tup [.int 2, .int 1]], .tup [.tup [.int 3, .int 2], .tup [.int 2, .int 1]], .tup [.tup [.int 3, .int 2], .tup [.int 2, .int 3]], .tup [.tup [.int 3, .int 4], .tup [.int 2, .int 3]], .tup [.tup [.int 3, .int 4], .tup [.int 2, .int 5]]]
theorem r02 (N k m d : D) (y7 y8 y9 y10 : Option Val) : (M02.map fun f => chk92 (r92 [some (.d N), some (.d k), some (.d m), some (.d (st92 R02)), some (.d f), some (.d d), some (.r 2), y7, y8, y9, y10] sB92)) = M02.map fun _ => ([some (.d N)], 11) := by kernel_rfl
theorem b02 (N k m f : D) (y6 y7 y8 y9 y10 : Option Val) : ([D.non, R02, .tup [R02, .str [120]]].map fun d => a92 [some (.d N), some (.d k), some (.d m), some (.d (st92 R02)), some (.d f), some (.d d), y6, y7, y8, y9, y10] []) = [D.non, R02, .tup [R02, .str [120]]].map fun d => .nx [some (.d N), some (.d k), some (.d m), some (.d (st92 R02)), some (.d f), some (.d d), some (.r 2), y7, y8, y9, y10] sA92 := by kernel_rfl
theorem k02 : Case92 0 2 R02 M02 where
  beg := by kernel_rfl
  mv := by kernel_rfl
  ne := by decide
  le := by decide
  bad := fun d hd N k m f y6 y7 y8 y9 y10 => List.map_inj_left.mp (b02 N k m f y6 y7 y8 y9 y10) d hd
  bnd := List.forall_mem_cons.mpr ⟨by kernel_rfl, List.forall_mem_cons.mpr ⟨by kernel_rfl, List.forall_mem_cons.mpr ⟨by kernel_rfl, List.forall_mem_cons.mpr ⟨by kernel_rfl, List.forall_mem_nil _⟩⟩⟩⟩
  all := fun f hf N k m d y7 y8 y9 y10 => List.map_inj_left.mp (r02 N k m d y7 y8 y9 y10) f hf
abbrev R03 : D := .tup [.str [32, 98, 32, 98, 32, 98, 32], .str [46, 32, 46, 32, 46, 32, 46], .str [32, 46, 32, 46, 32, 46, 32], .str [119, 32, 119, 32, 119, 32, 119]]
abbrev M03 : List D := [.tup [.tup [.int 3, .int 0], .tup [.int 2, .int 1]], .tup [.tup [.int 3, .int 2], .tup [.int 2, .int 1]], .tup [.tup [.int 3, .int 2], .tup [.int 2, .int 3]], .tup [.tup [.int 3, .int 4], .tup [.int 2, .int 3]], .tup [.tup [.int 3, .int 4], .tup [.int 2, .int 5]], .tup [.tup [.int 3, .int 6], .tup [.int 2, .int 5]]]
theorem r03 (N k m d : D) (y7 y8 y9 y10 : Option Val) : (M03.map fun f => chk92 (r92 [some (.d N), some (.d k), some (.d m), some (.d (st92 R03)), some (.d f), some (.d d), some (.r 2), y7, y8, y9, y10] sB92)) = M03.map fun _ => ([some (.d N)], 11) := by kernel_rfl
theorem b03 (N k m f : D) (y6 y7 y8 y9 y10 : Option Val) : ([D.non, R03, .tup [R03, .str [120]]].map fun d => a92 [some (.d N), some (.d k), some (.d m), some (.d (st92 R03)), some (.d f), some (.d d), y6, y7, y8, y9, y10] []) = [D.non, R03, .tup [R03, .str [120]]].map fun d => .nx [some (.d N), some (.d k), some (.d m), some (.d (st92 R03)), some (.d f), some (.d d), some (.r 2), y7, y8, y9, y10] sA92 := by kernel_rfl
theorem k03 : Case92 0 3 R03 M03 where
  beg := by kernel_rfl
  mv := by kernel_rfl
  ne := by decide
  le := by decide
  bad := fun d hd N k m f y6 y7 y8 y9 y10 => List.map_inj_left.mp (b03 N k m f y6 y7 y8 y9 y10) d hd
  bnd := List.forall_mem_cons.mpr ⟨by kernel_rfl, List.forall_mem_cons.mpr ⟨by kernel_rfl, List.forall_mem_cons.mpr ⟨by kernel_rfl, List.forall_mem_cons.mpr ⟨by kernel_rfl, List.forall_mem_nil _⟩⟩⟩⟩
  all := fun f hf N k m d y7 y8 y9 y10 => List.map_inj_left.mp (r03 N k m d y7 y8 y9 y10) f hf
abbrev R10 : D := .tup [.str [32, 98, 32, 98], .str [46, 32, 46, 32], .str [32, 46, 32, 46], .str [46, 32, 46, 32], .str [32, 119, 32, 119]]
abbrev M10 : List D := [.tup [.tup [.int 4, .int 1], .tup [.int 3, .int 0]], .tup [.tup [.int 4, .int 1], .tup [.int 3, .int 2]], .tup [.tup [.int 4, .int 3], .tup [.int 3, .int 2]]]
theorem r10 (N k m d : D) (y7 y8 y9 y10 : Option Val) : (M10.map fun f => chk92 (r92 [some (.d N), some (.d k), some (.d m), some (.d (st92 R10)), some (.d f), some (.d d), some (.r 2), y7, y8, y9, y10] sB92)) = M10.map fun _ => ([some (.d N)], 11) := by kernel_rfl
theorem b10 (N k m f : D) (y6 y7 y8 y9 y10 : Option Val) : ([D.non, R10, .tup [R10, .str [120]]].map fun d => a92 [some (.d N), some (.d k), some (.d m), some (.d (st92 R10)), some (.d f), some (.d d), y6, y7, y8, y9, y10] []) = [D.non, R10, .tup [R10, .str [120]]].map fun d => .nx [some (.d N), some (.d k), some (.d m), some (.d (st92 R10)), some (.d f), some (.d d), some (.r 2), y7, y8, y9, y10] sA92 := by kernel_rfl
theorem k10 : Case92 1 0 R10 M10 where
  beg := by kernel_rfl
  mv := by kernel_rfl
  ne := by decide
  le := by decide
  bad := fun d hd N k m f y6 y7 y8 y9 y10 => List.map_inj_left.mp (b10 N k m f y6 y7 y8 y9 y10) d hd
  bnd := List.forall_mem_cons.mpr ⟨by kernel_rfl, List.forall_mem_cons.mpr ⟨by kernel_rfl, List.forall_mem_cons.mpr ⟨by kernel_rfl, List.forall_mem_cons.mpr ⟨by kernel_rfl, List.forall_mem_nil _⟩⟩⟩⟩
  all := fun f hf N k m d y7 y8 y9 y10 => List.map_inj_left.mp (r10 N k m d y7 y8 y9 y10) f hf
abbrev R11 : D := .tup [.str [32, 98, 32, 98, 32], .str [46, 32, 46, 32, 46], .str [32, 46, 32, 46, 32], .str [46, 32, 46, 32, 46], .str [32, 119, 32, 119, 32]]
abbrev M11 : List D := [.tup [.tup [.int 4, .int 1], .tup [.int 3, .int 0]], .tup [.tup [.int 4, .int 1], .tup [.int 3, .int 2]], .tup [.tup [.int 4, .int 3], .tup [.int 3, .int 2]], .tup [.tup [.int 4, .int 3], .tup [.int 3, .int 4]]]
theorem r11 (N k m d : D) (y7 y8 y9 y10 : Option Val) : (M11.map fun f => chk92 (r92 [some (.d N), some (.d k), some (.d m), some (.d (st92 R11)), some (.d f), some (.d d), some (.r 2), y7, y8, y9, y10] sB92)) = M11.map fun _ => ([some (.d N)], 11) := by kernel_rfl
theorem b11 (N k m f : D) (y6 y7 y8 y9 y10 : Option Val) : ([D.non, R11, .tup [R11, .str [120]]].map fun d => a92 [some (.d N), some (.d k), some (.d m), some (.d (st92 R11)), some (.d f), some (.d d), y6, y7, y8, y9, y10] []) = [D.non, R11, .tup [R11, .str [120]]].map fun d => .nx [some (.d N), some (.d k), some (.d m), some (.d (st92 R11)), some (.d f), some (.d d), some (.r 2), y7, y8, y9, y10] sA92 := by kernel_rfl
theorem k11 : Case92 1 1 R11 M11 where
  beg := by kernel_rfl
  mv := by kernel_rfl
  ne := by decide
  le := by decide
  bad := fun d hd N k m f y6 y7 y8 y9 y10 => List.map_inj_left.mp (b11 N k m f y6 y7 y8 y9 y10) d hd
  bnd := List.forall_mem_cons.mpr ⟨by kernel_rfl, List.forall_mem_cons.mpr ⟨by kernel_rfl, List.forall_mem_cons.mpr ⟨by kernel_rfl, List.forall_mem_cons.mpr ⟨by kernel_rfl, List.forall_mem_nil _⟩⟩⟩⟩
  all := fun f hf N k m d y7 y8 y9 y10 => List.map_inj_left.mp (r11 N k m d y7 y8 y9 y10) f hf
abbrev R12 : D := .tup [.str [32, 98, 32, 98, 32, 98], .str [46, 32, 46, 32, 46, 32], .str [32, 46, 32, 46, 32, 46], .str [46, 32, 46, 32, 46, 32], .str [32, 119, 32, 119, 32, 119]]
abbrev M12 : List D := [.tup [.tup [.int 4, .int 1], .tup [.int 3, .int 0]], .tup [.tup [.int 4, .int 1], .tup [.int 3, .int 2]], .tup [.tup [.int 4, .int 3], .tup [.int 3, .int 2]], .tup [.tup [.int 4, .int 3], .tup [.int 3, .int 4]], .tup [.tup [.int 4, .int 5], .tup [.int 3, .int 4]]]
theorem r12 (N k m d : D) (y7 y8 y9 y10 : Option Val) : (M12.map fun f => chk92 (r92 [some (.d N), some (.d k), some (.d m), some (.d (st92 R12)), some (.d f), some (.d d), some (.r 2), y7, y8, y9, y10] sB92)) = M12.map fun _ => ([some (.d N)], 11) := by kernel_rfl
theorem b12 (N k m f : D) (y6 y7 y8 y9 y10 : Option Val) : ([D.non, R12, .tup [R12, .str [120]]].map fun d => a92 [some (.d N), some (.d k), some (.d m), some (.d (st92 R12)), some (.d f), some (.d d), y6, y7, y8, y9, y10] []) = [D.non, R12, .tup [R12, .str [120]]].map fun d => .nx [some (.d N), some (.d k), some (.d m), some (.d (st92 R12)), some (.d f), some (.d d), some (.r 2), y7, y8, y9, y10] sA92 := by kernel_rfl
theorem k12 : Case92 1 2 R12 M12 where
  beg := by kernel_rfl
  mv := by kernel_rfl
  ne := by decide
  le := by decide
  bad := fun d hd N k m f y6 y7 y8 y9 y10 => List.map_inj_left.mp (b12 N k m f y6 y7 y8 y9 y10) d hd
  bnd := List.forall_mem_cons.mpr ⟨by kernel_rfl, List.forall_mem_cons.mpr ⟨by kernel_rfl, List.forall_mem_cons.mpr ⟨by kernel_rfl, List.forall_mem_cons.mpr ⟨by kernel_rfl, List.forall_mem_nil _⟩⟩⟩⟩
  all := fun f hf N k m d y7 y8 y9 y10 => List.map_inj_left.mp (r12 N k m d y7 y8 y9 y10) f hf
abbrev R13 : D := .tup [.str [32, 98, 32, 98, 32, 98, 32], .str [46, 32, 46, 32, 46, 32, 46], .str [32, 46, 32, 46, 32, 46, 32], .str [46, 32, 46, 32, 46, 32, 46], .str [32, 119, 32, 119, 32, 119, 32]]
abbrev M13 : List D := [.tup [.tup [.int 4, .int 1], .tup [.int 3, .int 0]], .tup [.tup [.int 4, .int 1], .tup [.int 3, .int 2]], .tup [.tup [.int 4, .int 3], .tup [.int 3, .int 2]], .tup [.tup [.int 4, .int 3], .tup [.int 3, .int 4]], .tup [.tup [.int 4, .int 5], .tup [.int 3, .int 4]], .tup [.tup [.int 4, .int 5], .tup [.int 3, .int 6]]]
theorem r13 (N k m d : D) (y7 y8 y9 y10 : Option Val) : (M13.map fun f => chk92 (r92 [some (.d N), some (.d k), some (.d m), some (.d (st92 R13)), some (.d f), some (.d d), some (.r 2), y7, y8, y9, y10] sB92)) = M13.map fun _ => ([some (.d N)], 11) := by kernel_rfl
theorem b13 (N k m f : D) (y6 y7 y8 y9 y10 : Option Val) : ([D.non, R13, .tup [R13, .str [120]]].map fun d => a92 [some (.d N), some (.d k), some (.d m), some (.d (st92 R13)), some (.d f), some (.d d), y6, y7, y8, y9, y10] []) = [D.non, R13, .tup [R13, .str [120]]].map fun d => .nx [some (.d N), some (.d k), some (.d m), some (.d (st92 R13)), some (.d f), some (.d d), some (.r 2), y7, y8, y9, y10] sA92 := by kernel_rfl
theorem k13 : Case92 1 3 R13 M13 where
  beg := by kernel_rfl
  mv := by kernel_rfl
  ne := by decide
  le := by decide
  bad := fun d hd N k m f y6 y7 y8 y9 y10 => List.map_inj_left.mp (b13 N k m f y6 y7 y8 y9 y10) d hd
  bnd := List.forall_mem_cons.mpr ⟨by kernel_rfl, List.forall_mem_cons.mpr ⟨by kernel_rfl, List.forall_mem_cons.mpr ⟨by kernel_rfl, List.forall_mem_cons.mpr ⟨by kernel_rfl, List.forall_mem_nil _⟩⟩⟩⟩
  all := fun f hf N k m d y7 y8 y9 y10 => List.map_inj_left.mp (r13 N k m d y7 y8 y9 y10) f hf
abbrev R20 : D := .tup [.str [32, 98, 32, 98], .str [46, 32, 46, 32], .str [32, 46, 32, 46], .str [46, 32, 46, 32], .str [32, 46, 32, 46], .str [119, 32, 119, 32]]
abbrev M20 : List D := [.tup [.tup [.int 5, .int 0], .tup [.int 4, .int 1]], .tup [.tup [.int 5, .int 2], .tup [.int 4, .int 1]], .tup [.tup [.int 5, .int 2], .tup [.int 4, .int 3]]]
theorem r20 (N k m d : D) (y7 y8 y9 y10 : Option Val) : (M20.map fun f => chk92 (r92 [some (.d N), some (.d k), some (.d m), some (.d (st92 R20)), some (.d f), some (.d d), some (.r 2), y7, y8, y9, y10] sB92)) = M20.map fun _ => ([some (.d N)], 11) := by kernel_rfl
theorem b20 (N k m f : D) (y6 y7 y8 y9 y10 : Option Val) : ([D.non, R20, .tup [R20, .str [120]]].map fun d => a92 [some (.d N), some (.d k), some (.d m), some (.d (st92 R20)), some (.d f), some (.d d), y6, y7, y8, y9, y10] []) = [D.non, R20, .tup [R20, .str [120]]].map fun d => .nx [some (.d N), some (.d k), some (.d m), some (.d (st92 R20)), some (.d f), some (.d d), some (.r 2), y7, y8, y9, y10] sA92 := by kernel_rfl
theorem k20 : Case92 2 0 R20 M20 where
  beg := by kernel_rfl
  mv := by kernel_rfl
  ne := by decide
  le := by decide
  bad := fun d hd N k m f y6 y7 y8 y9 y10 => List.map_inj_left.mp (b20 N k m f y6 y7 y8 y9 y10) d hd
  bnd := List.forall_mem_cons.mpr ⟨by kernel_rfl, List.forall_mem_cons.mpr ⟨by kernel_rfl, List.forall_mem_cons.mpr ⟨by kernel_rfl, List.forall_mem_cons.mpr ⟨by kernel_rfl, List.forall_mem_nil _⟩⟩⟩⟩
  all := fun f hf N k m d y7 y8 y9 y10 => List.map_inj_left.mp (r20 N k m d y7 y8 y9 y10) f hf
abbrev R21 : D := .tup [.str [32, 98, 32, 98, 32], .str [46, 32, 46, 32, 46], .str [32, 46, 32, 46, 32], .str [46, 32, 46, 32, 46], .str [32, 46, 32, 46, 32], .str [119, 32, 119, 32, 119]]
abbrev M21 : List D := [.tup [.tup [.int 5, .int 0], .tup [.int 4, .int 1]], .tup [.tup [.int 5, .int 2], .tup [.int 4, .int 1]], .tup [.tup [.int 5, .int 2], .tup [.int 4, .int 3]], .tup [.tup [.int 5, .int 4], .tup [.int 4, .int 3]]]
theorem r21 (N k m d : D) (y7 y8 y9 y10 : Option Val) : (M21.map fun f => chk92 (r92 [some (.d N), some (.d k), some (.d m), some (.d (st92 R21)), some (.d f), some (.d d), some (.r 2), y7, y8, y9, y10] sB92)) = M21.map fun _ => ([some (.d N)], 11) := by kernel_rfl
theorem b21 (N k m f : D) (y6 y7 y8 y9 y10 : Option Val) : ([D.non, R21, .tup [R21, .str [120]]].map fun d => a92 [some (.d N), some (.d k), some (.d m), some (.d (st92 R21)), some (.d f), some (.d d), y6, y7, y8, y9, y10] []) = [D.non, R21, .tup [R21, .str [120]]].map fun d => .nx [some (.d N), some (.d k), some (.d m), some (.d (st92 R21)), some (.d f), some (.d d), some (.r 2), y7, y8, y9, y10] sA92 := by kernel_rfl
theorem k21 : Case92 2 1 R21 M21 where
  beg := by kernel_rfl
  mv := by kernel_rfl
  ne := by decide
  le := by decide
  bad := fun d hd N k m f y6 y7 y8 y9 y10 => List.map_inj_left.mp (b21 N k m f y6 y7 y8 y9 y10) d hd
  bnd := List.forall_mem_cons.mpr ⟨by kernel_rfl, List.forall_mem_cons.mpr ⟨by kernel_rfl, List.forall_mem_cons.mpr ⟨by kernel_rfl, List.forall_mem_cons.mpr ⟨by kernel_rfl, List.forall_mem_nil _⟩⟩⟩⟩
  all := fun f hf N k m d y7 y8 y9 y10 => List.map_inj_left.mp (r21 N k m d y7 y8 y9 y10) f hf
abbrev R22 : D := .tup [.str [32, 98, 32, 98, 32, 98], .str [46, 32, 46, 32, 46, 32], .str [32, 46, 32, 46, 32, 46], .str [46, 32, 46, 32, 46, 32], .str [32, 46, 32, 46, 32, 46], .str [119, 32, 119, 32, 119, 32]]
abbrev M22 : List D := [.tup [.tup [.int 5, .int 0], .tup [.int 4, .int 1]], .tup [.tup [.int 5, .int 2], .tup [.int 4, .int 1]], .tup [.tup [.int 5, .int 2], .tup [.int 4, .int 3]], .tup [.tup [.int 5, .int 4], .tup [.int 4, .int 3]], .tup [.tup [.int 5, .int 4], .tup [.int 4, .int 5]]]
theorem r22 (N k m d : D) (y7 y8 y9 y10 : Option Val) : (M22.map fun f => chk92 (r92 [some (.d N), some (.d k), some (.d m), some (.d (st92 R22)), some (.d f), some (.d d), some (.r 2), y7, y8, y9, y10] sB92)) = M22.map fun _ => ([some (.d N)], 11) := by kernel_rfl
theorem b22 (N k m f : D) (y6 y7 y8 y9 y10 : Option Val) : ([D.non, R22, .tup [R22, .str [120]]].map fun d => a92 [some (.d N), some (.d k), some (.d m), some (.d (st92 R22)), some (.d f), some (.d d), y6, y7, y8, y9, y10] []) = [D.non, R22, .tup [R22, .str [120]]].map fun d => .nx [some (.d N), some (.d k), some (.d m), some (.d (st92 R22)), some (.d f), some (.d d), some (.r 2), y7, y8, y9, y10] sA92 := by kernel_rfl
theorem k22 : Case92 2 2 R22 M22 where
  beg := by kernel_rfl
  mv := by kernel_rfl
  ne := by decide
  le := by decide
  bad := fun d hd N k m f y6 y7 y8 y9 y10 => List.map_inj_left.mp (b22 N k m f y6 y7 y8 y9 y10) d hd
  bnd := List.forall_mem_cons.mpr ⟨by kernel_rfl, List.forall_mem_cons.mpr ⟨by kernel_rfl, List.forall_mem_cons.mpr ⟨by kernel_rfl, List.forall_mem_cons.mpr ⟨by kernel_rfl, List.forall_mem_nil _⟩⟩⟩⟩
  all := fun f hf N k m d y7 y8 y9 y10 => List.map_inj_left.mp (r22 N k m d y7 y8 y9 y10) f hf
abbrev R23 : D := .tup [.str [32, 98, 32, 98, 32, 98, 32], .str [46, 32, 46, 32, 46, 32, 46], .str [32, 46, 32, 46, 32, 46, 32], .str [46, 32, 46, 32, 46, 32, 46], .str [32, 46, 32, 46, 32, 46, 32], .str [119, 32, 119, 32, 119, 32, 119]]
abbrev M23 : List D := [.tup [.tup [.int 5, .int 0], .tup [.int 4, .int 1]], .tup [.tup [.int 5, .int 2], .tup [.int 4, .int 1]], .tup [.tup [.int 5, .int 2], .tup [.int 4, .int 3]], .tup [.tup [.int 5, .int 4], .tup [.int 4, .int 3]], .tup [.tup [.int 5, .int 4], .tup [.int 4, .int 5]], .tup [.tup [.int 5, .int 6], .tup [.int 4, .int 5]]]
theorem r23 (N k m d : D) (y7 y8 y9 y10 : Option Val) : (M23.map fun f => chk92 (r92 [some (.d N), some (.d k), some (.d m), some (.d (st92 R23)), some (.d f), some (.d d), some (.r 2), y7, y8, y9, y10] sB92)) = M23.map fun _ => ([some (.d N)], 11) := by kernel_rfl
theorem b23 (N k m f : D) (y6 y7 y8 y9 y10 : Option Val) : ([D.non, R23, .tup [R23, .str [120]]].map fun d => a92 [some (.d N), some (.d k), some (.d m), some (.d (st92 R23)), some (.d f), some (.d d), y6, y7, y8, y9, y10] []) = [D.non, R23, .tup [R23, .str [120]]].map fun d => .nx [some (.d N), some (.d k), some (.d m), some (.d (st92 R23)), some (.d f), some (.d d), some (.r 2), y7, y8, y9, y10] sA92 := by kernel_rfl
theorem k23 : Case92 2 3 R23 M23 where
  beg := by kernel_rfl
  mv := by kernel_rfl
  ne := by decide
  le := by decide
  bad := fun d hd N k m f y6 y7 y8 y9 y10 => List.map_inj_left.mp (b23 N k m f y6 y7 y8 y9 y10) d hd
  bnd := List.forall_mem_cons.mpr ⟨by kernel_rfl, List.forall_mem_cons.mpr ⟨by kernel_rfl, List.forall_mem_cons.mpr ⟨by kernel_rfl, List.forall_mem_cons.mpr ⟨by kernel_rfl, List.forall_mem_nil _⟩⟩⟩⟩
  all := fun f hf N k m d y7 y8 y9 y10 => List.map_inj_left.mp (r23 N k m d y7 y8 y9 y10) f hf
abbrev R30 : D := .tup [.str [32, 98, 32, 98], .str [46, 32, 46, 32], .str [32, 46, 32, 46], .str [46, 32, 46, 32], .str [32, 46, 32, 46], .str [46, 32, 46, 32], .str [32, 119, 32, 119]]
abbrev M30 : List D := [.tup [.tup [.int 6, .int 1], .tup [.int 5, .int 0]], .tup [.tup [.int 6, .int 1], .tup [.int 5, .int 2]], .tup [.tup [.int 6, .int 3], .tup [.int 5, .int 2]]]
theorem r30 (N k m d : D) (y7 y8 y9 y10 : Option Val) : (M30.map fun f => chk92 (r92 [some (.d N), some (.d k), some (.d m), some (.d (st92 R30)), some (.d f), some (.d d), some (.r 2), y7, y8, y9, y10] sB92)) = M30.map fun _ => ([some (.d N)], 11) := by kernel_rfl
theorem b30 (N k m f : D) (y6 y7 y8 y9 y10 : Option Val) : ([D.non, R30, .tup [R30, .str [120]]].map fun d => a92 [some (.d N), some (.d k), some (.d m), some (.d (st92 R30)), some (.d f), some (.d d), y6, y7, y8, y9, y10] []) = [D.non, R30, .tup [R30, .str [120]]].map fun d => .nx [some (.d N), some (.d k), some (.d m), some (.d (st92 R30)), some (.d f), some (.d d), some (.r 2), y7, y8, y9, y10] sA92 := by kernel_rfl
theorem k30 : Case92 3 0 R30 M30 where
  beg := by kernel_rfl
  mv := by kernel_rfl
  ne := by decide
  le := by decide
  bad := fun d hd N k m f y6 y7 y8 y9 y10 => List.map_inj_left.mp (b30 N k m f y6 y7 y8 y9 y10) d hd
  bnd := List.forall_mem_cons.mpr ⟨by kernel_rfl, List.forall_mem_cons.mpr ⟨by kernel_rfl, List.forall_mem_cons.mpr ⟨by kernel_rfl, List.forall_mem_cons.mpr ⟨by kernel_rfl, List.forall_mem_nil _⟩⟩⟩⟩
  all := fun f hf N k m d y7 y8 y9 y10 => List.map_inj_left.mp (r30 N k m d y7 y8 y9 y10) f hf
abbrev R31 : D := .tup [.str [32, 98, 32, 98, 32], .str [46, 32, 46, 32, 46], .str [32, 46, 32, 46, 32], .str [46, 32, 46, 32, 46], .str [32, 46, 32, 46, 32], .str [46, 32, 46, 32, 46], .str [32, 119, 32, 119, 32]]
abbrev M31 : List D := [.tup [.tup [.int 6, .int 1], .tup [.int 5, .int 0]], .tup [.tup [.int 6, .int 1], .tup [.int 5, .int 2]], .tup [.tup [.int 6, .int 3], .tup [.int 5, .int 2]], .tup [.tup [.int 6, .int 3], .tup [.int 5, .int 4]]]
theorem r31 (N k m d : D) (y7 y8 y9 y10 : Option Val) : (M31.map fun f => chk92 (r92 [some (.d N), some (.d k), some (.d m), some (.d (st92 R31)), some (.d f), some (.d d), some (.r 2), y7, y8, y9, y10] sB92)) = M31.map fun _ => ([some (.d N)], 11) := by kernel_rfl
theorem b31 (N k m f : D) (y6 y7 y8 y9 y10 : Option Val) : ([D.non, R31, .tup [R31, .str [120]]].map fun d => a92 [some (.d N), some (.d k), some (.d m), some (.d (st92 R31)), some (.d f), some (.d d), y6, y7, y8, y9, y10] []) = [D.non, R31, .tup [R31, .str [120]]].map fun d => .nx [some (.d N), some (.d k), some (.d m), some (.d (st92 R31)), some (.d f), some (.d d), some (.r 2), y7, y8, y9, y10] sA92 := by kernel_rfl
theorem k31 : Case92 3 1 R31 M31 where
  beg := by kernel_rfl
  mv := by kernel_rfl
  ne := by decide
  le := by decide
  bad := fun d hd N k m f y6 y7 y8 y9 y10 => List.map_inj_left.mp (b31 N k m f y6 y7 y8 y9 y10) d hd
  bnd := List.forall_mem_cons.mpr ⟨by kernel_rfl, List.forall_mem_cons.mpr ⟨by kernel_rfl, List.forall_mem_cons.mpr ⟨by kernel_rfl, List.forall_mem_cons.mpr ⟨by kernel_rfl, List.forall_mem_nil _⟩⟩⟩⟩
  all := fun f hf N k m d y7 y8 y9 y10 => List.map_inj_left.mp (r31 N k m d y7 y8 y9 y10) f hf
abbrev R32 : D := .tup [.str [32, 98, 32, 98, 32, 98], .str [46, 32, 46, 32, 46, 32], .str [32, 46, 32, 46, 32, 46], .str [46, 32, 46, 32, 46, 32], .str [32, 46, 32, 46, 32, 46], .str [46, 32, 46, 32, 46, 32], .str [32, 119, 32, 119, 32, 119]]
abbrev M32 : List D := [.tup [.tup [.int 6, .int 1], .tup [.int 5, .int 0]], .tup [.tup [.int 6, .int 1], .tup [.int 5, .int 2]], .tup [.tup [.int 6, .int 3], .tup [.int 5, .int 2]], .tup [.tup [.int 6, .int 3], .tup [.int 5, .int 4]], .tup [.tup [.int 6, .int 5], .tup [.int 5, .int 4]]]
theorem r32 (N k m d : D) (y7 y8 y9 y10 : Option Val) : (M32.map fun f => chk92 (r92 [some (.d N), some (.d k), some (.d m), some (.d (st92 R32)), some (.d f), some (.d d), some (.r 2), y7, y8, y9, y10] sB92)) = M32.map fun _ => ([some (.d N)], 11) := by kernel_rfl
theorem b32 (N k m f : D) (y6 y7 y8 y9 y10 : Option Val) : ([D.non, R32, .tup [R32, .str [120]]].map fun d => a92 [some (.d N), some (.d k), some (.d m), some (.d (st92 R32)), some (.d f), some (.d d), y6, y7, y8, y9, y10] []) = [D.non, R32, .tup [R32, .str [120]]].map fun d => .nx [some (.d N), some (.d k), some (.d m), some (.d (st92 R32)), some (.d f), some (.d d), some (.r 2), y7, y8, y9, y10] sA92 := by kernel_rfl
theorem k32 : Case92 3 2 R32 M32 where
  beg := by kernel_rfl
  mv := by kernel_rfl
  ne := by decide
  le := by decide
  bad := fun d hd N k m f y6 y7 y8 y9 y10 => List.map_inj_left.mp (b32 N k m f y6 y7 y8 y9 y10) d hd
  bnd := List.forall_mem_cons.mpr ⟨by kernel_rfl, List.forall_mem_cons.mpr ⟨by kernel_rfl, List.forall_mem_cons.mpr ⟨by kernel_rfl, List.forall_mem_cons.mpr ⟨by kernel_rfl, List.forall_mem_nil _⟩⟩⟩⟩
  all := fun f hf N k m d y7 y8 y9 y10 => List.map_inj_left.mp (r32 N k m d y7 y8 y9 y10) f hf
abbrev R33 : D := .tup [.str [32, 98, 32, 98, 32, 98, 32], .str [46, 32, 46, 32, 46, 32, 46], .str [32, 46, 32, 46, 32, 46, 32], .str [46, 32, 46, 32, 46, 32, 46], .str [32, 46, 32, 46, 32, 46, 32], .str [46, 32, 46, 32, 46, 32, 46], .str [32, 119, 32, 119, 32, 119, 32]]
abbrev M33 : List D := [.tup [.tup [.int 6, .int 1], .tup [.int 5, .int 0]], .tup [.tup [.int 6, .int 1], .tup [.int 5, .int 2]], .tup [.tup [.int 6, .int 3], .tup [.int 5, .int 2]], .tup [.tup [.int 6, .int 3], .tup [.int 5, .int 4]], .tup [.tup [.int 6, .int 5], .tup [.int 5, .int 4]], .tup [.tup [.int 6, .int 5], .tup [.int 5, .int 6]]]
theorem r33 (N k m d : D) (y7 y8 y9 y10 : Option Val) : (M33.map fun f => chk92 (r92 [some (.d N), some (.d k), some (.d m), some (.d (st92 R33)), some (.d f), some (.d d), some (.r 2), y7, y8, y9, y10] sB92)) = M33.map fun _ => ([some (.d N)], 11) := by kernel_rfl
theorem b33 (N k m f : D) (y6 y7 y8 y9 y10 : Option Val) : ([D.non, R33, .tup [R33, .str [120]]].map fun d => a92 [some (.d N), some (.d k), some (.d m), some (.d (st92 R33)), some (.d f), some (.d d), y6, y7, y8, y9, y10] []) = [D.non, R33, .tup [R33, .str [120]]].map fun d => .nx [some (.d N), some (.d k), some (.d m), some (.d (st92 R33)), some (.d f), some (.d d), some (.r 2), y7, y8, y9, y10] sA92 := by kernel_rfl
theorem k33 : Case92 3 3 R33 M33 where
  beg := by kernel_rfl
  mv := by kernel_rfl
  ne := by decide
  le := by decide
  bad := fun d hd N k m f y6 y7 y8 y9 y10 => List.map_inj_left.mp (b33 N k m f y6 y7 y8 y9 y10) d hd
  bnd := List.forall_mem_cons.mpr ⟨by kernel_rfl, List.forall_mem_cons.mpr ⟨by kernel_rfl, List.forall_mem_cons.mpr ⟨by kernel_rfl, List.forall_mem_cons.mpr ⟨by kernel_rfl, List.forall_mem_nil _⟩⟩⟩⟩
  all := fun f hf N k m d y7 y8 y9 y10 => List.map_inj_left.mp (r33 N k m d y7 y8 y9 y10) f hf
theorem case92 (m : Int) : ∃ R ms, Case92 (m % 4) (m / 8 % 4) R ms := by
  have h1 : m % 4 = 0 ∨ m % 4 = 1 ∨ m % 4 = 2 ∨ m % 4 = 3 := by omega
  have h2 : m / 8 % 4 = 0 ∨ m / 8 % 4 = 1 ∨ m / 8 % 4 = 2 ∨ m / 8 % 4 = 3 := by omega
  rcases h1 with e | e | e | e <;> rw [e] <;> rcases h2 with e | e | e | e <;> rw [e]
  · exact ⟨_, _, k00⟩
  · exact ⟨_, _, k01⟩
  · exact ⟨_, _, k02⟩
  · exact ⟨_, _, k03⟩
  · exact ⟨_, _, k10⟩
  · exact ⟨_, _, k11⟩
  · exact ⟨_, _, k12⟩
  · exact ⟨_, _, k13⟩
  · exact ⟨_, _, k20⟩
  · exact ⟨_, _, k21⟩
  · exact ⟨_, _, k22⟩
  · exact ⟨_, _, k23⟩
  · exact ⟨_, _, k30⟩
  · exact ⟨_, _, k31⟩
  · exact ⟨_, _, k32⟩
  · exact ⟨_, _, k33⟩
theorem seq_assoc (f g h : DS) : sSeq f (sSeq g h) = sSeq (sSeq f g) h := by
  funext sl S
  unfold sSeq
  cases f sl S <;> rfl
theorem bc_told {a : DE} {sl : Sl} {S S1 : Sto} (h : a sl S = .exc 3 S1) : dTold 8 F_u_law_word a sl S = .ok (.d bc92) S1 := by
  have e : F_u_law_word 3 [.opq] = .ok bc92 := by kernel_rfl
  unfold dTold
  rw [h]
  simp only [e]
  rfl
theorem pick92 {l : List D} {i : Int} (h0 : 0 ≤ i) (h1 : i < l.length) : ∃ f ∈ l, ixD (.lst l) (.int i) = some f := by
  obtain ⟨f, hf⟩ : ∃ f, l[i.toNat]? = some f := ⟨_, List.getElem?_eq_getElem (by omega)⟩
  refine ⟨f, List.mem_of_getElem? hf, ?_⟩
  simp only [ixD]
  rw [atI_nat h0 h1]; exact hf
theorem c92_ok (N : D) (k : Int) (c : Int) (hc : F_u_law_cell [N, .int k] = .ok (.int c)) (x2 x3 x4 x5 x6 x7 x8 x9 x10 : Option Val) :
    NX 11 [some (.d N)] (c92 [some (.d N), some (.d (.int k)), x2, x3, x4, x5, x6, x7, x8, x9, x10] []) := by
  refine n_set (S1 := []) (dCall_ok (ds := [.int c, .int k]) (q_cons (dCall_ok (ds := [N, .int k]) (q_cons (e_var rfl) (q_cons (e_var rfl) q_nil)) hc) (q_cons (e_var rfl) q_nil)) (drawn_ok c k)) ?_
  generalize drw c k = m
  obtain ⟨R, ms, C⟩ := case92 m
  refine n_set (S1 := []) (dCall_ok (ds := [.int (4 + m % 4), .int (4 + m / 8 % 4), .int 1]) (q_cons (q_2 (S3 := []) e_c (q_2 (S3 := []) (e_var rfl) e_c (i_md _ _ _ (by decide))) (i_ad _ _ _)) (q_cons (q_2 (S3 := []) e_c (q_2 (S3 := []) (q_2 (S3 := []) (e_var rfl) e_c (i_dv _ _ _ (by decide) (by decide))) e_c (i_md _ _ _ (by decide))) (i_ad _ _ _)) (q_cons e_c q_nil))) C.beg) ?_
  have hl : kLen [.d (.lst ms)] [] = .ok (.d (.int (ms.length : Nat))) [] := by simp [kLen, lenV, lstItems]
  have h0 := Int.emod_nonneg (m / 64) (b := (ms.length : Int)) (by have := C.ne; omega)
  have h1 := Int.emod_lt_of_pos (m / 64) (b := (ms.length : Int)) (by have := C.ne; omega)
  obtain ⟨f, hf, hix⟩ := pick92 (l := ms) h0 h1
  refine n_set (S1 := []) (x := .d f) (e_ixS (x := .lst ms) (dCall_ok (ds := [st92 R]) (q_cons (e_var rfl) q_nil) C.mv) (q_2 (S3 := []) (q_2 (S3 := []) (e_var rfl) e_c (i_dv _ _ _ (by decide) (by decide))) (q_A1 (dCall_ok (ds := [st92 R]) (q_cons (e_var rfl) q_nil) C.mv) hl) (i_md _ _ _ (by have := C.ne; omega))) hix) ?_
  obtain ⟨d, hd, hdx⟩ := pick92 (l := [D.non, R, .tup [R, .str [120]]]) (i := m / 1024 % 3) (by omega) (by simp; omega)
  refine n_set (S1 := []) (x := .d d) (e_ixS (x := .lst [D.non, R, .tup [R, .str [120]]]) (y := .int (m / 1024 % 3)) rfl (q_2 (S3 := []) (q_2 (S3 := []) (e_var rfl) e_c (i_dv _ _ _ (by decide) (by decide))) e_c (i_md _ _ _ (by decide))) hdx) ?_
  rw [seq_assoc, seq_assoc]
  refine n_seq (C.bad d hd _ _ _ _ _ _ _ _ _) ?_
  obtain ⟨v, hv, hvx⟩ := pick92 (l := [D.int 0, .int 101, .non, .bl true]) (i := m / 4096 % 4) (by omega) (by simp; omega)
  refine n_skip (S1 := sB92) (q_tB (q_2 (x := .d bc92) (bc_told ?_) (y := .d bc92) (S2 := sB92) rfl (z := .d (.bl false)) (S3 := sB92) rfl)) ?_
  · show dA _ (newK 2 4 M_Match_init) _ _ = _
    rw [u_dA, q_cons (e_var rfl) (q_cons (e_ixS (x := .lst [D.int 0, .int 101, .non, .bl true]) (y := .int (m / 4096 % 4)) rfl (q_2 (S3 := sA92) (q_2 (S3 := sA92) (e_var rfl) e_c (i_dv _ _ _ (by decide) (by decide))) e_c (i_md _ _ _ (by decide))) hvx) (q_cons e_c q_nil)), Out.bind_ok]
    exact C.bnd v hv
  exact of_chk92 (C.all f hf _ _ _ _ _ _ _ _)
theorem plain (ns : List Int) (hn : ns.length ≤ 63) (_ : ∀ z ∈ ns, Builtin.Int.intBits z ≤ 1048576) : ∃ S', g_law (startX 11 [.d (.lst (ns.map .int))]) [] = .ret (.d (.bl true)) S' := by
  have hlen : kLen [.d (.lst (ns.map .int))] [] = .ok (.d (.int (ns.length : Nat))) [] := by simp [kLen, lenV, lstItems]
  generalize hM : (if (if (ns.length : Int) < 4 then (ns.length : Int) else 4) > 1 then (if (ns.length : Int) < 4 then (ns.length : Int) else 4) else 1) = M
  have hM1 : 0 ≤ M ∧ M < 100 := by rw [← hM]; split <;> split <;> omega
  have hfit : fitI M = true := by unfold fitI; simp; omega
  have hIt : (iRange (aCons (dA (aCons (dC (.int 1)) (aCons (dA (aCons (dC (.int 4)) (aCons (dA (aCons (dVar 0) aNil) kLen) aNil)) (rdA2 min2D)) aNil)) (rdA2 max2D)) aNil)) (startX 11 [.d (.lst (ns.map .int))]) [] = .ok (fun _ => some (rngD 0 M.toNat)) [] := by
    simp [iRange, startX, hlen, rdA2, rd2, asD, min2D, max2D, hM, hfit]
  refine law_loop (Inv := fun sl S => (sl.take 1 = [some (.d (.lst (ns.map .int)))] ∧ sl.length = 11) ∧ S = []) hIt ⟨⟨rfl, rfl⟩, rfl⟩ fun k hk sl S h => ?_
  obtain ⟨⟨h1, h2⟩, rfl⟩ := h
  obtain ⟨c, hc⟩ := cell_ok ns hn k
  generalize hN : ns.map D.int = N at *
  obtain ⟨r, rfl, hrl⟩ := sl_split (p := [some (.d (.lst N))]) h1
  rw [h2] at hrl
  match r, hrl with
  | [x1, x2, x3, x4, x5, x6, x7, x8, x9, x10], _ =>
    obtain ⟨sl', e1, e2, e3⟩ := (c92_ok (.lst N) k c hc x2 x3 x4 x5 x6 x7 x8 x9 x10).gc rfl
    exact ⟨sl', [], e1, ⟨e2, e3⟩, rfl⟩
end Dn

set_option Elab.async false
set_option linter.all false
set_option maxRecDepth 100000
set_option maxHeartbeats 0
open PySem PySem.W PySem.Calls PyProof.Rows
set_option maxHeartbeats 0
theorem PySem.Challenge.cw_menleap_k92_matches_refused_holds : PySem.Challenge.rw_menleap_k92_matches_refused.Holds := by
  w_on; o_law
  refine HandSHeadRun.head_any (r := OpenLaw.row PySem.Challenge.rw_menleap_k92_matches_refused) (q := view (OpenLaw.row PySem.Challenge.rw_menleap_k92_matches_refused).prog [62]) (H := Dn.hk) (ob := Dn.ob) (M := 9000) (loose := Dn.loose) (d := HandSHeadRun.topDef (OpenLaw.row PySem.Challenge.rw_menleap_k92_matches_refused).prog 62) (kwd := []) Dn.ob_eq
    (by kernel_rfl) (fun s => by kernel_rfl) Dn.run (by kernel_rfl) (by kernel_rfl) (by kernel_rfl) (by rfl) (by first | assumption | decide +kernel) (by decide +kernel) ⟨rfl, rfl, rfl, rfl, rfl, by decide +kernel⟩ ?hw ?hc
  case hw => w_witness2
  case hc =>
    refine LamX.walk_ofTsE (l := PySem.Challenge.rw_menleap_k92_matches_refused) (n := 63) (k := 27) (x := "script") (CX := fun w => L2N.CX (PySem.Challenge.rw_menleap_k92_matches_refused).prog w) rfl (by decide) (by kernel_rfl) ⟨rfl, by decide, by decide⟩ ?F (fun w H s e s' z => Dn.cx_none z)
    intro w mg fa h Y G hmg0
    obtain ⟨K, KX, c⟩ := Y
    have hmg : mg ("law" : PySem.Str) = some (.ref fa) := by
      have e : (HandSHeadRun.topDef (OpenLaw.row PySem.Challenge.rw_menleap_k92_matches_refused).prog 62).name = ("law" : PySem.Str) := by kernel_rfl
      rw [← e]
      exact hmg0
    exact ⟨K, KX, Dn.law_facts KX G hmg c Dn.plain⟩


