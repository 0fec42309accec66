import PyProof.Rows.All
import Wide.All
import OpenK.AllK
import Wide.FinOn
import KE.KeyNested
import KE.KDictKeyed
import KE.KDictWalk
import KE.KDictDisplayH
import HandS.ForMost
import HandS.ForExc
import HandS.Flow
import HandS.More
import HandS.Strs
import HandS.Wide
import HandS.TupAny
import HandS.Deep
import HandS.IsInst
import PyProof.Rows.SeqMore
import HandS.WordsExc
import HandS.Ends
import HandS.SetIn
import HandS.WordsDict
import KE.SortData
import HandS.HeadHook3
import HandS.TryOnly
import KE.GoesMore
import KE.GoesEnum
import KE.GoesZip
import KE.KUnpackStar
import HandS.SetBool
import HandS.SetFor
import HandS.Conv
import KE.KDictCopyH
import HandS.Style
import HandS.Head2
import PySem.Challenge.RW_pacebond_k02_worths_names_terms
set_option Elab.async false
set_option linter.all false
set_option maxRecDepth 100000
set_option maxHeartbeats 4000000
/-! Iv0: keys of dicts that are tuples of ints, of None and of such tuples. -/
namespace Iv
open PySem PySem.Spec
mutual
def tkey : PyData → Option NestedKey
  | .none => some .none
  | .int i => some (.num i)
  | .tuple ds => (tkeys ds).map .tup
  | _ => none
def tkeys : List PyData → Option (List NestedKey)
  | [] => some []
  | d :: r => (tkey d).bind fun k => (tkeys r).map (k :: ·)
end
/-- the key that a datum is: a tuple, not too deep -/
def ckey : PyData → Option NestedKey
  | .tuple ds => (tkey (.tuple ds)).bind fun k => if k.depth ≤ 8 then some k else none
  | _ => none
theorem ckey_t {d : PyData} {k : NestedKey} (h : ckey d = some k) : tkey d = some k ∧ k.depth ≤ 8 ∧ ∃ ds, d = .tuple ds := by
  cases d with
  | tuple ds =>
    unfold ckey at h
    obtain ⟨k', h1, h2⟩ := Option.bind_eq_some_iff.mp h
    split at h2
    · rename_i hk
      cases h2
      exact ⟨h1, hk, _, rfl⟩
    · cases h2
  | _ => cases h
mutual
theorem tkey_data : ∀ {d : PyData} {k : NestedKey}, tkey d = some k → k.data = d
  | .none, k, h => by simp only [tkey, Option.some.injEq] at h; subst h; rfl
  | .int i, k, h => by simp only [tkey, Option.some.injEq] at h; subst h; rfl
  | .tuple ds, k, h => by
    simp only [tkey] at h
    obtain ⟨ks, h1, rfl⟩ := Option.map_eq_some_iff.mp h
    show PyData.tuple (NestedKey.datas ks) = _
    rw [tkeys_data h1]
  | .bool _, k, h => by simp [tkey] at h
  | .str _, k, h => by simp [tkey] at h
  | .list _, k, h => by simp [tkey] at h
  | .dict _, k, h => by simp [tkey] at h
theorem tkeys_data : ∀ {ds : List PyData} {ks : List NestedKey}, tkeys ds = some ks → NestedKey.datas ks = ds
  | [], ks, h => by simp only [tkeys, Option.some.injEq] at h; subst h; rfl
  | d :: r, ks, h => by
    simp only [tkeys] at h
    obtain ⟨k, h1, h2⟩ := Option.bind_eq_some_iff.mp h
    obtain ⟨l, h3, rfl⟩ := Option.map_eq_some_iff.mp h2
    show k.data :: NestedKey.datas l = _
    rw [tkey_data h1, tkeys_data h3]
end
mutual
/-- no text: the World has no word in it -/
theorem tkey_hash (w w' : World) : ∀ {d : PyData} {k : NestedKey}, tkey d = some k → k.hash w = k.hash w'
  | .none, k, h => by simp only [tkey, Option.some.injEq] at h; subst h; rfl
  | .int i, k, h => by simp only [tkey, Option.some.injEq] at h; subst h; rfl
  | .tuple ds, k, h => by
    simp only [tkey] at h
    obtain ⟨ks, h1, rfl⟩ := Option.map_eq_some_iff.mp h
    simp only [NestedKey.hash]
    rw [tkeys_hash w w' h1]
  | .bool _, k, h => by simp [tkey] at h
  | .str _, k, h => by simp [tkey] at h
  | .list _, k, h => by simp [tkey] at h
  | .dict _, k, h => by simp [tkey] at h
theorem tkeys_hash (w w' : World) : ∀ {ds : List PyData} {ks : List NestedKey}, tkeys ds = some ks → NestedKey.hashes w ks = NestedKey.hashes w' ks
  | [], ks, h => by simp only [tkeys, Option.some.injEq] at h; subst h; rfl
  | d :: r, ks, h => by
    simp only [tkeys] at h
    obtain ⟨k, h1, h2⟩ := Option.bind_eq_some_iff.mp h
    obtain ⟨l, h3, rfl⟩ := Option.map_eq_some_iff.mp h2
    simp only [NestedKey.hashes]
    rw [tkey_hash w w' h1, tkeys_hash w w' h3]
end
theorem ckey_inj {d d' : PyData} {k : NestedKey} (h : ckey d = some k) (h' : ckey d' = some k) : d = d' := by
  rw [← tkey_data (ckey_t h).1, ← tkey_data (ckey_t h').1]
abbrev DTv := List (PyData × PyData)
/-- the key is there -/
def inT (kvs : DTv) (d : PyData) : Bool := kvs.any fun p => decide (ckey p.1 = ckey d)
/-- stored -/
def putT (kvs : DTv) (d v : PyData) : DTv := if inT kvs d = true then kvs.map fun p => if ckey p.1 = ckey d then (p.1, v) else p else kvs ++ [(d, v)]
/-- the keys of entries -/
inductive EsT : List DictEntry → DTv → List (NestedKey × Addr × Value) → Prop
  | nil : EsT [] [] []
  | cons {e : DictEntry} {es : List DictEntry} {d v : PyData} {kvs : DTv} {k : NestedKey} {a : Addr} {u : Value} {xs : List (NestedKey × Addr × Value)} :
      ckey d = some k → (∃ w : World, e = ⟨k.hash w, .ref a, u⟩) → EsT es kvs xs → EsT (e :: es) ((d, v) :: kvs) ((k, a, u) :: xs)
section
variable {P : Program} {w : World}
theorem EsT.ents : ∀ {es : List DictEntry} {kvs : DTv} {xs : List (NestedKey × Addr × Value)}, EsT es kvs xs → es = xs.map (entryOfKey (nestedKind P w))
  | _, _, _, .nil => rfl
  | _, _, _, .cons (e := e) (u := u) (a := a) h1 h2 t => by
    obtain ⟨w', rfl⟩ := h2
    rw [List.map_cons, ← EsT.ents t, tkey_hash w' w (ckey_t h1).1]
    rfl
theorem EsT.keys : ∀ {es : List DictEntry} {kvs : DTv} {xs : List (NestedKey × Addr × Value)}, EsT es kvs xs → kvs.map (fun p => ckey p.1) = xs.map (fun x => some x.1)
  | _, _, _, .nil => rfl
  | _, _, _, .cons h1 h2 t => by rw [List.map_cons, List.map_cons, ← EsT.keys t, h1]
theorem EsT.length {es : List DictEntry} {kvs : DTv} {xs : List (NestedKey × Addr × Value)} (h : EsT es kvs xs) : kvs.length = xs.length := by
  have := congrArg List.length h.keys
  simpa using this
theorem EsT.isIn {es : List DictEntry} {kvs : DTv} {xs : List (NestedKey × Addr × Value)} (h : EsT es kvs xs) {d : PyData} {k : NestedKey} (hk : ckey d = some k) : (atKey xs k).isSome = inT kvs d := by
  have e : inT kvs d = (xs.map (fun x => some x.1)).any (fun q => decide (q = ckey d)) := by
    rw [← h.keys, List.any_map]; rfl
  rw [e, hk, List.any_map]
  unfold atKey
  rw [Option.isSome_map, Bool.eq_iff_iff, List.find?_isSome, List.any_eq_true]
  simp
end
end Iv
set_option Elab.async false
set_option linter.all false
set_option maxRecDepth 100000
set_option maxHeartbeats 4000000
/-! Iv1: values, stores, results; how they stand in the layer's heaps. -/
namespace Iv
open PySem PySem.Spec PyProof.Rows L2

/-- the built-in types that are named -/
inductive Ty where
  | non | bl | int | str | lst | tup | dct
  deriving DecidableEq
def Ty.name : Ty → String
  | .non => "NoneType"
  | .bl => "bool"
  | .int => "int"
  | .str => "str"
  | .lst => "list"
  | .tup => "tuple"
  | .dct => "dict"
inductive Vl where
  | d (x : PyData)
  | ref (n : Nat)
  | gl (x : Str)
  | ty (t : Ty)

/-- a mutable object -/
inductive Cell where
  | lst (xs : List PyData)
  | dct (kvs : List (PyData × PyData))
  | set (so : Bool) (ks : List Int)
  | dtk (kvs : DTv)
  | dead

abbrev Sto := List Cell

/-- an exception: its class (a name of the module), its attributes -/
structure Exn where
  cls : Str
  fs : List (Str × PyData)

inductive Rs (α : Type) where
  | ok (a : α) (st : Sto)
  | ex (e : Exn) (st : Sto)
  | bad

abbrev M (α : Type) := Sto → Rs α
abbrev Env := List (Option Vl)

@[inline] def ret {α : Type} (a : α) : M α := fun st => .ok a st
def nope {α : Type} : M α := fun _ => .bad
@[inline] def M.bind {α β : Type} (m : M α) (f : α → M β) : M β := fun st =>
  match m st with
  | .ok a st' => f a st'
  | .ex e st' => .ex e st'
  | .bad => .bad

/-! ### the relation -/
/-- where the cells stand; h: what is being made (nothing leads to it yet) -/
structure Mp where
  c : List (Option Addr)
  h : List Addr
/-- never changed -/
def Fz (μ : Mp) (a : Addr) : Prop := some a ∉ μ.c ∧ a ∉ μ.h

/-- a tuple, a list that is never changed -/
def TF (K : PySem.W.Frag) (μ : Mp) (H : Hp) (a : Addr) (xs : List V) : Prop :=
  (Rd H a (.tup xs) ∧ Fz μ a) ∨
    ∃ (o : Obj) (its : Array Value) (n : Nat), K.lookup a = some o ∧ o.cls = .type "tuple" ∧ o.data = .seq its n ∧ its.size ≤ sizeLine ∧ Vals xs its.toList
def LF (K : PySem.W.Frag) (μ : Mp) (H : Hp) (a : Addr) (xs : List V) : Prop :=
  (Rd H a (.lst xs) ∧ Fz μ a) ∨
    ∃ (o : Obj) (its : Array Value) (n : Nat), K.lookup a = some o ∧ o.cls = .type "list" ∧ o.dict = none ∧ o.data = .seq its n ∧ its.size ≤ sizeLine ∧ Vals xs its.toList
theorem TF.sq {K : PySem.W.Frag} {μ : Mp} {H : Hp} {a : Addr} {xs : List V} (h : TF K μ H a xs) : SqT K H a xs := h.imp (·.1) id
theorem LF.sq {K : PySem.W.Frag} {μ : Mp} {H : Hp} {a : Addr} {xs : List V} (h : LF K μ H a xs) : SqL K H a xs := h.imp (·.1) id

def keyD : Key → PyData
  | .inl i => .int i
  | .inr x => .str x

mutual
inductive RP (K : PySem.W.Frag) (μ : Mp) (H : Hp) : V → PyData → Prop
  | non : RP K μ H .non .none
  | bl (b : Bool) : RP K μ H (.bl b) (.bool b)
  | int (i : Int) : RP K μ H (.int i) (.int i)
  | str (x : Str) : RP K μ H (.str x) (.str x)
  | lst {a : Addr} {xs : List V} {ds : List PyData} : LF K μ H a xs → RPs K μ H xs ds → RP K μ H (.ref a) (.list ds)
  | tup {a : Addr} {xs : List V} {ds : List PyData} : TF K μ H a xs → RPs K μ H xs ds → RP K μ H (.ref a) (.tuple ds)
  | dct {a : Addr} {kvs : List (Key × V)} {ds : List (PyData × PyData)} : Rd H a (.dK kvs) → Fz μ a → RPk K μ H kvs ds → RP K μ H (.ref a) (.dict ds)
inductive RPs (K : PySem.W.Frag) (μ : Mp) (H : Hp) : List V → List PyData → Prop
  | nil : RPs K μ H [] []
  | cons {v : V} {vs : List V} {d : PyData} {ds : List PyData} : RP K μ H v d → RPs K μ H vs ds → RPs K μ H (v :: vs) (d :: ds)
inductive RPk (K : PySem.W.Frag) (μ : Mp) (H : Hp) : List (Key × V) → List (PyData × PyData) → Prop
  | nil : RPk K μ H [] []
  | cons {k : Key} {v : V} {vs : List (Key × V)} {d : PyData} {ds : List (PyData × PyData)} : RP K μ H v d → RPk K μ H vs ds → RPk K μ H ((k, v) :: vs) ((keyD k, d) :: ds)
end

/-- what is never changed stays; a cell's address stays or is dead -/
structure Grow (μ : Mp) (H : Hp) (μ' : Mp) (H' : Hp) : Prop where
  fz : ∀ a o, H a = some o → some a ∉ μ.c → H' a = some o ∧ some a ∉ μ'.c
  hd : μ'.h = μ.h
  len : μ.c.length ≤ μ'.c.length
  at_ : ∀ (n : Nat) (x : Option Addr), μ.c[n]? = some x → μ'.c[n]? = some x ∨ μ'.c[n]? = some none

theorem Grow.refl (μ : Mp) (H : Hp) : Grow μ H μ H := ⟨fun _ _ h1 h2 => ⟨h1, h2⟩, rfl, Nat.le_refl _, fun _ _ h => .inl h⟩
theorem Grow.trans {μ μ1 μ2 : Mp} {H H1 H2 : Hp} (a : Grow μ H μ1 H1) (b : Grow μ1 H1 μ2 H2) : Grow μ H μ2 H2 := by
  refine ⟨fun x o h1 h2 => ?_, b.hd.trans a.hd, Nat.le_trans a.len b.len, fun n x h => ?_⟩
  · obtain ⟨h3, h4⟩ := a.fz x o h1 h2
    exact b.fz x o h3 h4
  · rcases a.at_ n x h with e | e
    · exact b.at_ n x e
    · rcases b.at_ n none e with e' | e'
      · exact .inr e'
      · exact .inr e'

section
variable {K : PySem.W.Frag} {μ μ' : Mp} {H H' : Hp}
theorem Grow.rd (s : Grow μ H μ' H') {a : Addr} {u : HO} (r : Rd H a u) (n : Fz μ a) : Rd H' a u ∧ Fz μ' a := by
  rcases r with e | ⟨o, e⟩
  · obtain ⟨h1, h2⟩ := s.fz a _ e n.1
    exact ⟨.inl h1, h2, by rw [s.hd]; exact n.2⟩
  · obtain ⟨h1, h2⟩ := s.fz a _ e n.1
    exact ⟨.inr ⟨o, h1⟩, h2, by rw [s.hd]; exact n.2⟩
/-- what is never changed is read as it was -/
structure Kp (μ : Mp) (H : Hp) (μ' : Mp) (H' : Hp) : Prop where
  rd : ∀ (a : Addr) (u : HO), Rd H a u → Fz μ a → Rd H' a u ∧ Fz μ' a
  at_ : ∀ (n : Nat) (x : Option Addr), μ.c[n]? = some x → μ'.c[n]? = some x ∨ μ'.c[n]? = some none
theorem Grow.kp (s : Grow μ H μ' H') : Kp μ H μ' H' := ⟨fun _ _ r n => s.rd r n, s.at_⟩
theorem Kp.trans {μ1 : Mp} {H1 : Hp} (a : Kp μ H μ1 H1) (b : Kp μ1 H1 μ' H') : Kp μ H μ' H' :=
  ⟨fun x u r n => b.rd x u (a.rd x u r n).1 (a.rd x u r n).2, fun n x h => by
    rcases a.at_ n x h with e | e
    · exact b.at_ n x e
    · rcases b.at_ n none e with e' | e'
      · exact .inr e'
      · exact .inr e'⟩
theorem TF.kp (s : Kp μ H μ' H') {a : Addr} {xs : List V} (h : TF K μ H a xs) : TF K μ' H' a xs := by
  rcases h with ⟨r, n⟩ | h
  · exact .inl (s.rd _ _ r n)
  · exact .inr h
theorem LF.kp (s : Kp μ H μ' H') {a : Addr} {xs : List V} (h : LF K μ H a xs) : LF K μ' H' a xs := by
  rcases h with ⟨r, n⟩ | h
  · exact .inl (s.rd _ _ r n)
  · exact .inr h
/-- what is never changed is read as it was: no more -/
def Kr (μ : Mp) (H : Hp) (μ' : Mp) (H' : Hp) : Prop := ∀ (a : Addr) (u : HO), Rd H a u → Fz μ a → Rd H' a u ∧ Fz μ' a
theorem TF.kr (s : Kr μ H μ' H') {a : Addr} {xs : List V} (h : TF K μ H a xs) : TF K μ' H' a xs := by
  rcases h with ⟨r, n⟩ | h
  · exact .inl (s _ _ r n)
  · exact .inr h
theorem LF.kr (s : Kr μ H μ' H') {a : Addr} {xs : List V} (h : LF K μ H a xs) : LF K μ' H' a xs := by
  rcases h with ⟨r, n⟩ | h
  · exact .inl (s _ _ r n)
  · exact .inr h
mutual
theorem RP.kr (s : Kr μ H μ' H') : ∀ {v : V} {d : PyData}, RP K μ H v d → RP K μ' H' v d
  | _, _, .non => .non
  | _, _, .bl b => .bl b
  | _, _, .int i => .int i
  | _, _, .str x => .str x
  | _, _, .lst h r => .lst (h.kr s) (RPs.kr s r)
  | _, _, .tup h r => .tup (h.kr s) (RPs.kr s r)
  | _, _, .dct h n r => .dct (s _ _ h n).1 (s _ _ h n).2 (RPk.kr s r)
theorem RPs.kr (s : Kr μ H μ' H') : ∀ {vs : List V} {ds : List PyData}, RPs K μ H vs ds → RPs K μ' H' vs ds
  | _, _, .nil => .nil
  | _, _, .cons h r => .cons (RP.kr s h) (RPs.kr s r)
theorem RPk.kr (s : Kr μ H μ' H') : ∀ {vs : List (Key × V)} {ds : List (PyData × PyData)}, RPk K μ H vs ds → RPk K μ' H' vs ds
  | _, _, .nil => .nil
  | _, _, .cons h r => .cons (RP.kr s h) (RPk.kr s r)
end
theorem RP.kp (s : Kp μ H μ' H') {v : V} {d : PyData} (h : RP K μ H v d) : RP K μ' H' v d := h.kr s.rd
theorem RPs.kp (s : Kp μ H μ' H') {v : List V} {d : List PyData} (h : RPs K μ H v d) : RPs K μ' H' v d := h.kr s.rd
theorem RPk.kp (s : Kp μ H μ' H') {v : List (Key × V)} {d : List (PyData × PyData)} (h : RPk K μ H v d) : RPk K μ' H' v d := h.kr s.rd
theorem RP.step (s : Grow μ H μ' H') {v : V} {d : PyData} (h : RP K μ H v d) : RP K μ' H' v d := h.kp s.kp
theorem RPs.step (s : Grow μ H μ' H') {v : List V} {d : List PyData} (h : RPs K μ H v d) : RPs K μ' H' v d := h.kp s.kp
theorem RPk.step (s : Grow μ H μ' H') {v : List (Key × V)} {d : List (PyData × PyData)} (h : RPk K μ H v d) : RPk K μ' H' v d := h.kp s.kp
end

/-- the set of the numbers ks at a; so: the World's word on the order of sets -/
def SetC (so : Bool) (a : Addr) (ks : List Int) : HO := .ext fun h => ∃ w : World, w.params.followText "set-order" = so ∧ SetR w h a (fun k => ks.contains k) ks.length
theorem setC_eq {w : World} {a : Addr} {ks : List Int} : SetC (w.params.followText "set-order") a ks = SetO w a (fun k => ks.contains k) ks.length := by
  unfold SetC SetO
  congr 1
  funext h
  refine propext ⟨fun ⟨w', e, r⟩ => ?_, fun r => ⟨w, rfl, r⟩⟩
  unfold SetR at r ⊢
  rw [e] at r
  exact r
/-- a plain dict of the entries es at a -/
def DtO (a : Addr) (es : Array DictEntry) (ep : Nat) : HO := .ext fun h => h.DictRaw a es ep
/-- a cell of the store at its address -/
def RC (K : PySem.W.Frag) (μ : Mp) (H : Hp) : Option Addr → Cell → Prop
  | some a, .lst xs => ∃ vs, H a = some (.lst vs) ∧ RPs K μ H vs xs
  | some a, .dct kvs => ∃ vs, H a = some (.dK vs) ∧ RPk K μ H vs kvs
  | some a, .set so ks => H a = some (SetC so a ks) ∧ ks.Nodup
  | some a, .dtk kvs => (a == sysModules) = false ∧ (kvs.map fun p => ckey p.1).Nodup ∧ ∃ (es : Array DictEntry) (ep : Nat) (xs : List (NestedKey × Addr × Value)) (vs : List V),
    H a = some (DtO a es ep) ∧ EsT es.toList kvs xs ∧ RPs K μ H (xs.map fun x => V.ref x.2.1) (kvs.map (·.1)) ∧ Vals vs (xs.map (·.2.2)) ∧ RPs K μ H vs (kvs.map (·.2))
  | none, .dead => True
  | _, _ => False

structure RSt (K : PySem.W.Frag) (μ : Mp) (H : Hp) (st : Sto) : Prop where
  len : μ.c.length = st.length
  hid : ∀ a ∈ μ.h, H a ≠ none
  dis : ∀ a ∈ μ.h, some a ∉ μ.c
  nd : ∀ (i j : Nat) (a : Addr), μ.c[i]? = some (some a) → μ.c[j]? = some (some a) → i = j
  cell : ∀ (n : Nat) (x : Option Addr) (c : Cell), μ.c[n]? = some x → st[n]? = some c → RC K μ H x c


inductive RV (K : PySem.W.Frag) (mg : Str → Option Value) (μ : Mp) (H : Hp) : V → Vl → Prop
  | d {v : V} {x : PyData} : RP K μ H v x → RV K mg μ H v (.d x)
  | ref {n : Nat} {a : Addr} : (μ.c[n]? = some (some a) ∨ μ.c[n]? = some none) → RV K mg μ H (.ref a) (.ref n)
  | gl {x : Str} {a : Addr} : mg x = some (.ref a) → RV K mg μ H (.ref a) (.gl x)
  | ty (t : Ty) : RV K mg μ H (.ty t.name) (.ty t)

theorem RV.kp {K : PySem.W.Frag} {mg : Str → Option Value} {μ μ' : Mp} {H H' : Hp} (s : Kp μ H μ' H') {v : V} {x : Vl} (h : RV K mg μ H v x) : RV K mg μ' H' v x := by
  cases h with
  | d h => exact .d (h.kp s)
  | ref h =>
    refine .ref ?_
    rcases h with h | h
    · exact s.at_ _ _ h
    · rcases s.at_ _ _ h with e | e
      · exact .inr e
      · exact .inr e
  | gl h => exact .gl h
  | ty t => exact .ty t
theorem RV.step {K : PySem.W.Frag} {mg : Str → Option Value} {μ μ' : Mp} {H H' : Hp} (s : Grow μ H μ' H') {v : V} {x : Vl} (h : RV K mg μ H v x) : RV K mg μ' H' v x := h.kp s.kp

inductive RVs (K : PySem.W.Frag) (mg : Str → Option Value) (μ : Mp) (H : Hp) : List V → List Vl → Prop
  | nil : RVs K mg μ H [] []
  | cons {v : V} {vs : List V} {d : Vl} {ds : List Vl} : RV K mg μ H v d → RVs K mg μ H vs ds → RVs K mg μ H (v :: vs) (d :: ds)
theorem RVs.step {K : PySem.W.Frag} {mg : Str → Option Value} {μ μ' : Mp} {H H' : Hp} (s : Grow μ H μ' H') : ∀ {vs : List V} {xs : List Vl}, RVs K mg μ H vs xs → RVs K mg μ' H' vs xs
  | _, _, .nil => .nil
  | _, _, .cons h r => .cons (h.step s) (r.step s)

/-- the slots -/
structure RE (K : PySem.W.Frag) (mg : Str → Option Value) (μ : Mp) (H : Hp) (σ : L2.St) (ρ : Env) : Prop where
  len : ρ.length = σ.length
  at_ : ∀ (i : Nat) (x : Vl), ρ[i]? = some (some x) → ∃ v, σ[i]? = some (some v) ∧ RV K mg μ H v x
theorem RE.kp {K : PySem.W.Frag} {mg : Str → Option Value} {μ μ' : Mp} {H H' : Hp} (s : Kp μ H μ' H') {σ : L2.St} {ρ : Env} (h : RE K mg μ H σ ρ) : RE K mg μ' H' σ ρ :=
  ⟨h.len, fun i x e => by obtain ⟨v, h1, h2⟩ := h.at_ i x e; exact ⟨v, h1, h2.kp s⟩⟩
theorem RE.step {K : PySem.W.Frag} {mg : Str → Option Value} {μ μ' : Mp} {H H' : Hp} (s : Grow μ H μ' H') {σ : L2.St} {ρ : Env} (h : RE K mg μ H σ ρ) : RE K mg μ' H' σ ρ := h.kp s.kp

/-- an exception behind a call or a raise -/
def RX (K : PySem.W.Frag) (mg : Str → Option Value) (μ : Mp) (H : Hp) (e : Exn) (cls : Value) (d : Option Addr) : Prop :=
  ∃ C, mg e.cls = some (.ref C) ∧ cls = .ref C ∧
    ((e.fs = [] ∧ d = none) ∨ ∃ dd vs, d = some dd ∧ H dd = some (.xd vs) ∧ Fz μ dd ∧ vs.map (·.1) = e.fs.map (·.1) ∧ RPs K μ H (vs.map (·.2)) (e.fs.map (·.2)))

/-- what is to hold behind a term -/
def Post {α β : Type} (K : PySem.W.Frag) (mg : Str → Option Value) (R : Mp → Hp → β → α → Prop) (μ : Mp) (H : Hp) (Q : β → Hp → Prop) (E : XK) : Rs α → Prop
  | .ok a st' => ∀ (v : β) (H' : Hp) (μ' : Mp), Grow μ H μ' H' → RSt K μ' H' st' → R μ' H' v a → Q v H'
  | .ex e st' => ∀ (cls : Value) (d : Option Addr) (H' : Hp) (μ' : Mp), Grow μ H μ' H' → RSt K μ' H' st' → RX K mg μ' H' e cls d → E cls d H'
  | .bad => False

end Iv
set_option Elab.async false
set_option linter.all false
set_option maxRecDepth 100000
set_option maxHeartbeats 4000000
/-! Iv2: facts of stores; primitives by values. -/
namespace Iv
open PySem PySem.Spec PyProof.Rows L2

section
variable {K : PySem.W.Frag} {mg : Str → Option Value} {μ : Mp} {H : Hp} {st : Sto}

theorem RSt.live (S : RSt K μ H st) {n : Nat} {a : Addr} (e : μ.c[n]? = some (some a)) : ∃ c, st[n]? = some c ∧ RC K μ H (some a) c := by
  have h1 : n < μ.c.length := (List.getElem?_eq_some_iff.mp e).1
  have h2 : n < st.length := by rw [← S.len]; exact h1
  exact ⟨st[n], List.getElem?_eq_getElem h2, S.cell n _ _ e (List.getElem?_eq_getElem h2)⟩
theorem RSt.trk (S : RSt K μ H st) {a : Addr} (e : some a ∈ μ.c) : H a ≠ none := by
  obtain ⟨n, h⟩ := List.getElem?_of_mem e
  obtain ⟨c, _, rc⟩ := S.live h
  cases c with
  | lst xs => obtain ⟨vs, h, _⟩ := rc; rw [h]; exact nofun
  | dct xs => obtain ⟨vs, h, _⟩ := rc; rw [h]; exact nofun
  | set so ks => rw [rc.1]; exact nofun
  | dtk kvs => obtain ⟨_, _, _, _, _, _, h, _⟩ := rc; rw [h]; exact nofun
  | dead => exact rc.elim
theorem RSt.fresh (S : RSt K μ H st) {p : Addr} (e : H p = none) : Fz μ p := ⟨fun h => S.trk h e, fun h => S.hid p h e⟩
theorem hid_upd {h : List Addr} (q : ∀ a ∈ h, H a ≠ none) {p : Addr} {o : HO} : ∀ a ∈ h, upd H p o a ≠ none := by
  intro a ha
  by_cases e : a = p
  · subst e; rw [upd_same]; exact nofun
  · rw [upd_ne e]; exact q a ha

/-- a new object beside: all stays -/
theorem Grow.new (S : RSt K μ H st) {p : Addr} {o : HO} (e : H p = none) : Grow μ H μ (upd H p o) :=
  ⟨fun a u h1 h2 => ⟨by rw [upd_ne (by intro q; subst q; rw [e] at h1; cases h1)]; exact h1, h2⟩, rfl, Nat.le_refl _, fun _ _ h => .inl h⟩
theorem RC.grow {μ' : Mp} {H' : Hp} (g : Grow μ H μ' H') {x : Option Addr} {c : Cell} (h : RC K μ H x c) (k : ∀ a, x = some a → H' a = H a) : RC K μ' H' x c := by
  cases x with
  | none => cases c <;> first | exact h | exact h.elim
  | some a =>
    cases c with
    | lst xs => obtain ⟨vs, h1, h2⟩ := h; exact ⟨vs, (k a rfl).trans h1, h2.step g⟩
    | dct xs => obtain ⟨vs, h1, h2⟩ := h; exact ⟨vs, (k a rfl).trans h1, h2.step g⟩
    | set so ks => exact ⟨(k a rfl).trans h.1, h.2⟩
    | dtk kvs => obtain ⟨z, nd, es, ep, xs, vs, h1, h2, h3, h4, h5⟩ := h; exact ⟨z, nd, es, ep, xs, vs, (k a rfl).trans h1, h2, h3.step g, h4, h5.step g⟩
    | dead => exact h.elim
theorem RSt.new (S : RSt K μ H st) {p : Addr} {o : HO} (e : H p = none) : RSt K μ (upd H p o) st :=
  ⟨S.len, hid_upd S.hid, S.dis, S.nd, fun n x c h1 h2 => (S.cell n x c h1 h2).grow (Grow.new S e) fun a q => upd_ne (by
    intro z; subst z; subst q
    obtain ⟨c', _, rc⟩ := S.live h1
    exact S.trk (List.mem_of_getElem? h1) e)⟩

/-- a cell is written -/
theorem Grow.write {n : Nat} {a : Addr} {o : HO} (e : μ.c[n]? = some (some a)) : Grow μ H μ (upd H a o) :=
  ⟨fun b u h1 h2 => ⟨by rw [upd_ne (by intro q; subst q; exact h2 (List.mem_of_getElem? e))]; exact h1, h2⟩, rfl, Nat.le_refl _, fun _ _ h => .inl h⟩
theorem RSt.write (S : RSt K μ H st) {n : Nat} {a : Addr} {o : HO} {c : Cell} (e : μ.c[n]? = some (some a)) (r : RC K μ (upd H a o) (some a) c) : RSt K μ (upd H a o) (st.set n c) := by
  refine ⟨by rw [List.length_set]; exact S.len, hid_upd S.hid, S.dis, S.nd, fun m x c' h1 h2 => ?_⟩
  by_cases q : n = m
  · subst q
    have hl : n < st.length := by rw [← S.len]; exact (List.getElem?_eq_some_iff.mp e).1
    rw [List.getElem?_set_self hl] at h2
    cases h2
    rw [e] at h1
    cases h1
    exact r
  · rw [List.getElem?_set_ne q] at h2
    refine (S.cell m x c' h1 h2).grow (Grow.write e) fun b hb => upd_ne ?_
    intro z
    subst z
    subst hb
    exact q (S.nd n m b e h1)
/-- a new cell -/
def Mp.add (μ : Mp) (p : Addr) : Mp := ⟨μ.c ++ [some p], μ.h⟩
def Mp.kill (μ : Mp) (n : Nat) : Mp := ⟨μ.c.set n none, μ.h⟩
theorem Grow.cell (S : RSt K μ H st) {p : Addr} {o : HO} (e : H p = none) : Grow μ H (μ.add p) (upd H p o) := by
  refine ⟨fun a u h1 h2 => ?_, rfl, by simp [Mp.add], fun n x h => .inl ?_⟩
  · have hne : a ≠ p := by intro q; subst q; rw [e] at h1; cases h1
    refine ⟨by rw [upd_ne hne]; exact h1, ?_⟩
    intro h
    rcases List.mem_append.mp h with h | h
    · exact h2 h
    · exact hne (Option.some.inj (List.mem_singleton.mp h))
  · show (μ.c ++ [some p])[n]? = some x
    rw [List.getElem?_append_left (List.getElem?_eq_some_iff.mp h).1]; exact h
theorem RSt.cellNew (S : RSt K μ H st) {p : Addr} {o : HO} {c : Cell} (e : H p = none) (r : RC K (μ.add p) (upd H p o) (some p) c) : RSt K (μ.add p) (upd H p o) (st ++ [c]) := by
  refine ⟨by simp [S.len, Mp.add], hid_upd S.hid, fun a ha hm => (by
    rcases List.mem_append.mp hm with hm | hm
    · exact S.dis a ha hm
    · rw [Option.some.inj (List.mem_singleton.mp hm)] at ha; exact S.hid p ha e), fun i j a h1 h2 => ?_, fun n x c' h1 h2 => ?_⟩
  · have out : ∀ k : Nat, (μ.c ++ [some p])[k]? = some (some a) → (k < μ.c.length ∧ μ.c[k]? = some (some a)) ∨ (k = μ.c.length ∧ a = p) := by
      intro k h
      by_cases q : k < μ.c.length
      · rw [List.getElem?_append_left q] at h; exact .inl ⟨q, h⟩
      · rw [List.getElem?_append_right (by omega)] at h
        have : k - μ.c.length = 0 := by
          have := (List.getElem?_eq_some_iff.mp h).1
          simp at this; omega
        rw [this] at h
        simp at h
        exact .inr ⟨by omega, h.symm⟩
    rcases out i h1 with ⟨_, a1⟩ | ⟨a1, a2⟩
    · rcases out j h2 with ⟨_, b1⟩ | ⟨b1, b2⟩
      · exact S.nd i j a a1 b1
      · subst b2; exact absurd e (S.trk (List.mem_of_getElem? a1))
    · rcases out j h2 with ⟨_, b1⟩ | ⟨b1, b2⟩
      · subst a2; exact absurd e (S.trk (List.mem_of_getElem? b1))
      · omega
  · replace h1 : (μ.c ++ [some p])[n]? = some x := h1
    by_cases q : n < μ.c.length
    · rw [List.getElem?_append_left q] at h1
      rw [List.getElem?_append_left (by rw [← S.len]; exact q)] at h2
      refine (S.cell n x c' h1 h2).grow (Grow.cell S e) fun a ha => upd_ne ?_
      intro z; subst z; subst ha
      exact S.trk (List.mem_of_getElem? h1) e
    · rw [List.getElem?_append_right (by omega)] at h1
      rw [List.getElem?_append_right (by rw [← S.len]; omega)] at h2
      have q0 : n - μ.c.length = 0 := by
        have := (List.getElem?_eq_some_iff.mp h1).1
        simp at this; omega
      have q1 : n - st.length = 0 := by rw [← S.len]; exact q0
      rw [q0] at h1; rw [q1] at h2
      simp at h1 h2
      subst h1; subst h2
      exact r
/-- a cell goes: what stood there is never changed from now on -/
theorem Grow.kill {n : Nat} : Grow μ H (μ.kill n) H := by
  refine ⟨fun a u h1 h2 => ⟨h1, fun h => ?_⟩, rfl, by simp [Mp.kill], fun m x h => ?_⟩
  · rcases List.mem_or_eq_of_mem_set h with h | h
    · exact h2 h
    · cases h
  · by_cases q : n = m
    · subst q
      have hl := (List.getElem?_eq_some_iff.mp h).1
      exact .inr (List.getElem?_set_self hl)
    · exact .inl (by show (μ.c.set n none)[m]? = _; rw [List.getElem?_set_ne q]; exact h)
theorem notin_kill (S : RSt K μ H st) {n : Nat} {a : Addr} (e : μ.c[n]? = some (some a)) : some a ∉ μ.c.set n none := by
  intro h
  obtain ⟨m, hm⟩ := List.getElem?_of_mem h
  by_cases q : n = m
  · subst q
    rw [List.getElem?_set_self (List.getElem?_eq_some_iff.mp e).1] at hm
    cases hm
  · rw [List.getElem?_set_ne q] at hm
    exact q (S.nd n m a e hm)
theorem RSt.kill (S : RSt K μ H st) (n : Nat) : RSt K (μ.kill n) H (st.set n .dead) := by
  refine ⟨by simp [S.len, Mp.kill], S.hid, fun a ha hm => (by
    rcases List.mem_or_eq_of_mem_set hm with hm | hm
    · exact S.dis a ha hm
    · cases hm), fun i j a h1 h2 => ?_, fun m x c h1 h2 => ?_⟩
  · have out : ∀ k : Nat, (μ.c.set n none)[k]? = some (some a) → μ.c[k]? = some (some a) := by
      intro k h
      by_cases q : n = k
      · subst q
        by_cases hl : n < μ.c.length
        · rw [List.getElem?_set_self hl] at h; cases h
        · have := (List.getElem?_eq_some_iff.mp h).1
          simp at this; omega
      · rw [List.getElem?_set_ne q] at h; exact h
    exact S.nd i j a (out i h1) (out j h2)
  · replace h1 : (μ.c.set n none)[m]? = some x := h1
    by_cases q : n = m
    · subst q
      have hl : n < μ.c.length := by have := (List.getElem?_eq_some_iff.mp h1).1; simpa using this
      rw [List.getElem?_set_self hl] at h1
      rw [List.getElem?_set_self (by rw [← S.len]; exact hl)] at h2
      cases h1; cases h2
      trivial
    · rw [List.getElem?_set_ne q] at h1 h2
      exact (S.cell m x c h1 h2).grow Grow.kill fun a _ => rfl

theorem RPs.length {vs : List V} {ds : List PyData} (h : RPs K μ H vs ds) : vs.length = ds.length := by
  induction vs generalizing ds with
  | nil => cases h; rfl
  | cons v vs ih => cases h with | cons _ r => simp [ih r]
theorem RPs.get {vs : List V} {ds : List PyData} (h : RPs K μ H vs ds) : ∀ {i : Nat} {d : PyData}, ds[i]? = some d → ∃ v, vs[i]? = some v ∧ RP K μ H v d := by
  induction vs generalizing ds with
  | nil => cases h; intro i d e; simp at e
  | cons v vs ih =>
    cases h with
    | cons h1 r =>
      intro i d e
      cases i with
      | zero => simp at e; subst e; exact ⟨v, rfl, h1⟩
      | succ i => simp at e; obtain ⟨w, h2, h3⟩ := ih r e; exact ⟨w, by simpa using h2, h3⟩
theorem RPs.get' {vs : List V} {ds : List PyData} (h : RPs K μ H vs ds) : ∀ {i : Nat} {v : V}, vs[i]? = some v → ∃ d, ds[i]? = some d ∧ RP K μ H v d := by
  induction vs generalizing ds with
  | nil => intro i d e; simp at e
  | cons v vs ih =>
    cases h with
    | cons h1 r =>
      intro i d e
      cases i with
      | zero => simp at e; subst e; exact ⟨_, rfl, h1⟩
      | succ i => simp at e; obtain ⟨w, h2, h3⟩ := ih r e; exact ⟨w, by simpa using h2, h3⟩
theorem RPs.append {vs ws : List V} {ds es : List PyData} (h : RPs K μ H vs ds) (h' : RPs K μ H ws es) : RPs K μ H (vs ++ ws) (ds ++ es) := by
  induction vs generalizing ds with
  | nil => cases h; exact h'
  | cons v vs ih => cases h with | cons h1 r => exact .cons h1 (ih r)
theorem RPs.one {v : V} {d : PyData} (h : RP K μ H v d) : RPs K μ H [v] [d] := .cons h .nil
theorem RPs.set {vs : List V} {ds : List PyData} (h : RPs K μ H vs ds) {v : V} {d : PyData} (r : RP K μ H v d) : ∀ i, RPs K μ H (vs.set i v) (ds.set i d) := by
  induction vs generalizing ds with
  | nil => cases h; intro i; exact .nil
  | cons w vs ih =>
    cases h with
    | cons h1 t =>
      intro i
      cases i with
      | zero => exact .cons r t
      | succ i => exact .cons h1 (ih t i)
theorem RPs.eraseIdx {vs : List V} {ds : List PyData} (h : RPs K μ H vs ds) : ∀ i, RPs K μ H (vs.eraseIdx i) (ds.eraseIdx i) := by
  induction vs generalizing ds with
  | nil => cases h; intro i; exact .nil
  | cons w vs ih =>
    cases h with
    | cons h1 t =>
      intro i
      cases i with
      | zero => exact t
      | succ i => exact .cons h1 (ih t i)
theorem RPs.take {vs : List V} {ds : List PyData} (h : RPs K μ H vs ds) : ∀ n, RPs K μ H (vs.take n) (ds.take n) := by
  induction vs generalizing ds with
  | nil => cases h; intro i; simp; exact .nil
  | cons w vs ih =>
    cases h with
    | cons h1 t =>
      intro i
      cases i with
      | zero => exact .nil
      | succ i => exact .cons h1 (ih t i)
theorem RPs.drop {vs : List V} {ds : List PyData} (h : RPs K μ H vs ds) : ∀ n, RPs K μ H (vs.drop n) (ds.drop n) := by
  induction vs generalizing ds with
  | nil => cases h; intro i; simp; exact .nil
  | cons w vs ih =>
    cases h with
    | cons h1 t =>
      intro i
      cases i with
      | zero => exact .cons h1 t
      | succ i => exact ih t i
theorem RPs.dropLast {vs : List V} {ds : List PyData} (h : RPs K μ H vs ds) : RPs K μ H vs.dropLast ds.dropLast := by
  rw [List.dropLast_eq_take, List.dropLast_eq_take, h.length]
  exact h.take _
theorem RPs.ints {vs : List V} : ∀ {ns : List Int}, RPs K μ H vs (ns.map .int) → vs = ns.map .int := by
  induction vs with
  | nil => intro ns h; cases ns with
    | nil => rfl
    | cons n ns => cases h
  | cons v vs ih =>
    intro ns h
    cases ns with
    | nil => cases h
    | cons n ns => cases h with | cons h1 r => cases h1; rw [ih r]; rfl

mutual
theorem RP.dp : ∀ {d : PyData} {v : V}, d.canLay0 = true → RP K μ H v d → Dp K H v d
  | .none, _, _, .non => .non
  | .bool _, _, _, .bl b => .bl b
  | .int _, _, _, .int i => .int i
  | .str _, _, _, .str x => .str x
  | .list ds, _, c, .lst h r => .lst h.sq (RPs.dp (by simpa [PyData.canLay0] using c) r)
  | .tuple ds, _, c, .tup h r => .tup h.sq (RPs.dp (by simpa [PyData.canLay0] using c) r)
  | .dict _, _, c, .dct _ _ _ => by simp [PyData.canLay0] at c
theorem RPs.dp : ∀ {ds : List PyData} {vs : List V}, PyData.canLayAll0 ds = true → RPs K μ H vs ds → DpAll K H vs ds
  | [], _, _, .nil => .nil
  | d :: ds, _, c, .cons h r => by
    have c' : d.canLay0 = true ∧ PyData.canLayAll0 ds = true := by simpa [PyData.canLayAll0] using c
    exact .cons (RP.dp c'.1 h) (RPs.dp c'.2 r)
end
end
end Iv
set_option Elab.async false
set_option linter.all false
set_option maxRecDepth 100000
set_option maxHeartbeats 4000000
/-! Iv3: primitives by values: what they compute, and that the machine does it. -/
namespace Iv
open PySem PySem.Spec PyProof.Rows L2

abbrev Pr := List Vl → Sto → Option (Vl × Sto)
abbrev P2 := Vl → Vl → Sto → Option (Vl × Sto)
def l2 (p : P2) : Pr := fun as st => match as with
  | [a, b] => p a b st
  | _ => none
abbrev P1 := Vl → Sto → Option (Vl × Sto)
def l1 (p : P1) : Pr := fun as st => match as with
  | [a] => p a st
  | _ => none

/-- a list's items -/
def asL (st : Sto) : Vl → Option (List PyData)
  | .d (.list xs) => some xs
  | .ref n => match st[n]? with
    | some (.lst xs) => some xs
    | _ => none
  | _ => none
def asT : Vl → Option (List PyData)
  | .d (.tuple xs) => some xs
  | _ => none
/-- a list's or a tuple's -/
def asQ (st : Sto) (v : Vl) : Option (List PyData) := (asT v).or (asL st v)

/-! ### what they compute -/
def mulOk (i j : Int) : Bool := decide (i.natAbs.log2 + j.natAbs.log2 < 1000000)
theorem mulOk.cw {i j : Int} (h : mulOk i j = true) : CMulW i j := of_decide_eq_true (p := i.natAbs.log2 + j.natAbs.log2 < 1000000) h
def pAdd2 : P2
  | .d (.int i), .d (.int j) => fun st => some (.d (.int (i + j)), st)
  | .d (.str x), .d (.str y) => fun st => if x.length + y.length ≤ sizeLine then some (.d (.str (x ++ y)), st) else none
  | .d (.tuple xs), .d (.tuple ys) => fun st => if xs.length + ys.length ≤ sizeLine then some (.d (.tuple (xs ++ ys)), st) else none
  | a, b => fun st => (asL st a).bind fun xs => (asL st b).bind fun ys => if xs.length + ys.length ≤ sizeLine then some (.d (.list (xs ++ ys)), st) else none
def pAdd : Pr := l2 pAdd2
def pSub2 : P2
  | .d (.int i), .d (.int j) => fun st => some (.d (.int (i - j)), st)
  | _, _ => fun _ => none
def pSub : Pr := l2 pSub2
def pMul2 : P2
  | .d (.int i), .d (.int j) => fun st => if mulOk i j = true then some (.d (.int (i * j)), st) else none
  | _, _ => fun _ => none
def pMul : Pr := l2 pMul2
def pFdiv2 : P2
  | .d (.int i), .d (.int j) => fun st => if 0 < j ∧ j.natAbs.log2 < 9000 then some (.d (.int (i / j)), st) else none
  | _, _ => fun _ => none
def pFdiv : Pr := l2 pFdiv2
def pMod2 : P2
  | .d (.int i), .d (.int j) => fun st => if 0 < j then some (.d (.int (i % j)), st) else none
  | _, _ => fun _ => none
def pMod : Pr := l2 pMod2
def pPow2 : P2
  | .d (.int i), .d (.int j) => fun st => if 0 ≤ j ∧ (Builtin.Int.intBits i : Int) * j ≤ 2 ^ 27 then some (.d (.int (i ^ j.toNat)), st) else none
  | _, _ => fun _ => none
def pPow : Pr := l2 pPow2
def pNeg1 : P1
  | .d (.int i) => fun st => some (.d (.int (-i)), st)
  | _ => fun _ => none
def pNeg : Pr := l1 pNeg1
def eqOk (a b : PyData) : Bool := a.canLay0 && b.canLay0 && decide (min a.depth b.depth ≤ 64)
/-- data, read (a cell of the store as the data that it holds now) -/
def asD (st : Sto) : Vl → Option PyData
  | .d x => some x
  | .ref n => match st[n]? with
    | some (.lst xs) => some (.list xs)
    | some (.dct kvs) => some (.dict kvs)
    | _ => none
  | .gl _ => none
  | .ty _ => none
def pEq2 : P2
  | a, b => fun st => (asD st a).bind fun x => (asD st b).bind fun y => if eqOk x y = true then some (.d (.bool (PyData.eqv x y)), st) else none
def pEq : Pr := l2 pEq2
def pNe2 : P2
  | a, b => fun st => (asD st a).bind fun x => (asD st b).bind fun y => if eqOk x y = true then some (.d (.bool (!PyData.eqv x y)), st) else none
def pNe : Pr := l2 pNe2
def pCmp2 (p : Int → Int → Bool) : P2
  | .d (.int i), .d (.int j) => fun st => some (.d (.bool (p i j)), st)
  | _, _ => fun _ => none
def pCmp (p : Int → Int → Bool) : Pr := l2 (pCmp2 p)
def pLt : Pr := pCmp fun i j => decide (i < j)
def pLe : Pr := pCmp fun i j => decide (i ≤ j)
def pGt : Pr := pCmp fun i j => decide (j < i)
def pGe : Pr := pCmp fun i j => decide (j ≤ i)
def isN : Vl → Option Bool
  | .d .none => some true
  | .d _ => some false
  | .ref _ => some false
  | .gl _ => some false
  | .ty _ => some false
/-- is None -/
def pIs2 : P2
  | a, .d .none => fun st => (isN a).map fun b => (.d (.bool b), st)
  | _, _ => fun _ => none
def pIs : Pr := l2 pIs2
def pIsnt2 : P2
  | a, .d .none => fun st => (isN a).map fun b => (.d (.bool (!b)), st)
  | _, _ => fun _ => none
def pIsnt : Pr := l2 pIsnt2
def inOk (d : PyData) (ds : List PyData) : Bool := d.canLay0 && PyData.canLayAll0 ds && decide (d.depth ≤ 64)
def pIn2 (neg : Bool) : P2
  | .d (.str i), .d (.str j) => fun st => some (.d (.bool (neg ^^ !(Builtin.Str.occurrences j i 0 j.length 1).isEmpty)), st)
  | a, b => fun st => (asD st a).bind fun d => (asQ st b).bind fun ds => if inOk d ds = true then some (.d (.bool (neg ^^ ds.any fun z => PyData.eqv z d)), st) else none
def pIn (neg : Bool) : Pr := l2 (pIn2 neg)

/-! ### they are done so -/
section
variable {X : Cx}
/-- the end of a primitive -/
def EPr (X : Cx) (pins : List (Addr × Obj)) (σ : L2.St) (μ : Mp) (H : Hp) (r : Vl × Sto) (u : Value) (s' : Shared) : Prop :=
  ∃ (v : V) (H' : Hp) (μ' : Mp), Inv X pins σ H' s' ∧ RelV v u ∧ Grow μ H μ' H' ∧ RSt X.K μ' H' r.2 ∧ RV X.K X.mg μ' H' v r.1
def PrOk (X : Cx) (f : List Value → Sem Value) (p : Pr) : Prop :=
  ∀ (pins : List (Addr × Obj)) (s : Shared) (σ : L2.St) (H : Hp) (vs : List V) (us : List Value) (μ : Mp) (st : Sto) (as : List Vl) (r : Vl × Sto), Inv X pins σ H s → Vals vs us → RVs X.K X.mg μ H vs as → RSt X.K μ H st →
    p as st = some r → wpAny (model X.prog X.w) X.A (f us) (EPr X pins σ μ H r) X.xe s

def f2 (f : Value → Value → Sem Value) : List Value → Sem Value
  | [v, u] => f v u
  | _ => unsupported ""
def f1 (f : Value → Sem Value) : List Value → Sem Value
  | [v] => f v
  | _ => unsupported ""

theorem EPr.of {pins : List (Addr × Obj)} {σ : L2.St} {μ : Mp} {H : Hp} {r : Vl × Sto} {u : Value} {s' : Shared}
    (h : EP X pins σ (fun v H' => ∃ μ', Grow μ H μ' H' ∧ RSt X.K μ' H' r.2 ∧ RV X.K X.mg μ' H' v r.1) u s') : EPr X pins σ μ H r u s' := by
  obtain ⟨v, H', I, rv, μ', g, s, q⟩ := h
  exact ⟨v, H', μ', I, rv, g, s, q⟩
theorem RVs.two {K : PySem.W.Frag} {mg : Str → Option Value} {μ : Mp} {H : Hp} {vs : List V} {a b : Vl} (h : RVs K mg μ H vs [a, b]) : ∃ x y, vs = [x, y] ∧ RV K mg μ H x a ∧ RV K mg μ H y b := by
  cases h with | cons h1 r => cases r with | cons h2 r => cases r; exact ⟨_, _, rfl, h1, h2⟩
theorem RVs.one {K : PySem.W.Frag} {mg : Str → Option Value} {μ : Mp} {H : Hp} {vs : List V} {a : Vl} (h : RVs K mg μ H vs [a]) : ∃ x, vs = [x] ∧ RV K mg μ H x a := by
  cases h with | cons h1 r => cases r; exact ⟨_, rfl, h1⟩
theorem RVs.zero {K : PySem.W.Frag} {mg : Str → Option Value} {μ : Mp} {H : Hp} {vs : List V} (h : RVs K mg μ H vs []) : vs = [] := by
  cases h; rfl
theorem l2_of {p : P2} {as : List Vl} {st : Sto} {x : Vl × Sto} (e : l2 p as st = some x) : ∃ a b, as = [a, b] := by
  unfold l2 at e
  split at e
  · exact ⟨_, _, rfl⟩
  · cases e
theorem l1_of {p : P1} {as : List Vl} {st : Sto} {x : Vl × Sto} (e : l1 p as st = some x) : ∃ a, as = [a] := by
  unfold l1 at e
  split at e
  · exact ⟨_, rfl⟩
  · cases e
/-- from a rule of two values -/
theorem pr_op {f : Value → Value → Sem Value} {r : R2} {p : P2} (ho : OpR X f r) 
    (h : ∀ (H : Hp) (x y : V) (μ : Mp) (st : Sto) (a b : Vl) (res : Vl × Sto), RV X.K X.mg μ H x a → RV X.K X.mg μ H y b → RSt X.K μ H st → p a b st = some res →
      r x y H fun v H' => ∃ μ', Grow μ H μ' H' ∧ RSt X.K μ' H' res.2 ∧ RV X.K X.mg μ' H' v res.1) : PrOk X (f2 f) (l2 p) := by
  intro pins s σ H vs us μ st as res I rv ra S e
  obtain ⟨a, b, rfl⟩ := l2_of e
  obtain ⟨x, y, rfl, h1, h2⟩ := ra.two
  obtain ⟨v, u, rfl, r1, r2⟩ := Vals.two rv
  exact thn (ho pins s σ H x y v u _ I r1 r2 (h H x y μ st a b res h1 h2 S e)) fun _ _ q => EPr.of q
/-- the heap stays: an int, a truth, a text -/
theorem stayV {μ : Mp} {H : Hp} {st : Sto} {v : V} {a : Vl} (S : RSt X.K μ H st) (r : RV X.K X.mg μ H v a) : ∃ μ', Grow μ H μ' H ∧ RSt X.K μ' H st ∧ RV X.K X.mg μ' H v a := ⟨μ, Grow.refl _ _, S, r⟩
/-- a new tuple, a new list that is never changed -/
theorem newT {μ : Mp} {H : Hp} {st : Sto} {vs : List V} {ds : List PyData} {p : Addr} (S : RSt X.K μ H st) (r : RPs X.K μ H vs ds) (e : H p = none) :
    ∃ μ', Grow μ H μ' (upd H p (.tup vs)) ∧ RSt X.K μ' (upd H p (.tup vs)) st ∧ RV X.K X.mg μ' (upd H p (.tup vs)) (.ref p) (.d (.tuple ds)) :=
  ⟨μ, Grow.new S e, S.new e, .d (.tup (.inl ⟨.inl upd_same, S.fresh e⟩) (r.step (Grow.new S e)))⟩
theorem newL {μ : Mp} {H : Hp} {st : Sto} {vs : List V} {ds : List PyData} {p : Addr} (S : RSt X.K μ H st) (r : RPs X.K μ H vs ds) (e : H p = none) :
    ∃ μ', Grow μ H μ' (upd H p (.lst vs)) ∧ RSt X.K μ' (upd H p (.lst vs)) st ∧ RV X.K X.mg μ' (upd H p (.lst vs)) (.ref p) (.d (.list ds)) :=
  ⟨μ, Grow.new S e, S.new e, .d (.lst (.inl ⟨.inl upd_same, S.fresh e⟩) (r.step (Grow.new S e)))⟩
theorem asL_rd {μ : Mp} {H : Hp} {st : Sto} {v : V} {a : Vl} {xs : List PyData} (S : RSt X.K μ H st) (r : RV X.K X.mg μ H v a) (e : asL st a = some xs) : ∃ p vs, v = .ref p ∧ SqL X.K H p vs ∧ RPs X.K μ H vs xs := by
  cases a with
  | d x =>
    cases x <;> simp [asL] at e
    subst e
    cases r with | d r => cases r with | lst h r => exact ⟨_, _, rfl, h.sq, r⟩
  | ref n =>
    cases r with
    | ref r =>
      rename_i p
      simp only [asL] at e
      split at e
      · rename_i ys hy
        cases e
        rcases r with r | r
        · have rc := S.cell n _ _ r hy
          obtain ⟨vs, h1, h2⟩ := rc
          exact ⟨p, vs, rfl, SqL.of h1, h2⟩
        · have rc := S.cell n _ _ r hy
          exact rc.elim
      · cases e
  | gl x => simp [asL] at e
  | ty x => simp [asL] at e
theorem asT_rd {μ : Mp} {H : Hp} {v : V} {a : Vl} {xs : List PyData} (r : RV X.K X.mg μ H v a) (e : asT a = some xs) : ∃ p vs, v = .ref p ∧ SqT X.K H p vs ∧ RPs X.K μ H vs xs := by
  cases a with
  | d x =>
    cases x <;> simp [asT] at e
    subst e
    cases r with | d r => cases r with | tup h r => exact ⟨_, _, rfl, h.sq, r⟩
  | ref n => simp [asT] at e
  | gl x => simp [asT] at e
  | ty x => simp [asT] at e
theorem asQ_rd {μ : Mp} {H : Hp} {st : Sto} {v : V} {a : Vl} {xs : List PyData} (S : RSt X.K μ H st) (r : RV X.K X.mg μ H v a) (e : asQ st a = some xs) :
    ∃ p vs, v = .ref p ∧ (SqL X.K H p vs ∨ SqT X.K H p vs) ∧ RPs X.K μ H vs xs := by
  unfold asQ at e
  cases h : asT a with
  | some ys =>
    rw [h] at e
    simp at e
    subst e
    obtain ⟨p, vs, h1, h2, h3⟩ := asT_rd r h
    exact ⟨p, vs, h1, .inr h2, h3⟩
  | none =>
    rw [h] at e
    simp at e
    obtain ⟨p, vs, h1, h2, h3⟩ := asL_rd S r e
    exact ⟨p, vs, h1, .inl h2, h3⟩
theorem asD_dp {μ : Mp} {H : Hp} {st : Sto} {v : V} {a : Vl} {d : PyData} (S : RSt X.K μ H st) (r : RV X.K X.mg μ H v a) (e : asD st a = some d) (c : d.canLay0 = true) : Dp X.K H v d := by
  cases a with
  | d x =>
    simp [asD] at e
    subst e
    cases r with | d r => exact r.dp c
  | ref n =>
    cases r with
    | ref r =>
      rename_i p
      simp only [asD] at e
      split at e
      · rename_i ys hy
        cases e
        rcases r with r | r
        · obtain ⟨vs, h1, h2⟩ := S.cell n _ _ r hy
          exact .lst (SqL.of h1) (h2.dp (by simpa [PyData.canLay0] using c))
        · exact (S.cell n _ _ r hy).elim
      · cases e
        simp [PyData.canLay0] at c
      · cases e
  | gl x => simp [asD] at e
  | ty x => simp [asD] at e

/-! ints -/
theorem ok_sub : PrOk X (f2 (binaryOp .Sub)) pSub := by
  refine pr_op op_sub fun H x y μ st a b res ra rb S e => ?_
  · unfold pSub2 at e
    split at e
    · rename_i i j
      cases e
      cases ra with | d ra => cases ra; cases rb with | d rb => cases rb; exact ⟨i, j, rfl, rfl, stayV S (.d (.int _))⟩
    · cases e
theorem op_powW : OpR X (binaryOp .Pow) (rI (fun i j => 0 ≤ j ∧ (Builtin.Int.intBits i : Int) * j ≤ 2 ^ 27) fun i j => .int (i ^ j.toNat)) := opI fun _ _ _ _ _ _ _ hc q => pow_int hc.1 hc.2 q
theorem ok_mul : PrOk X (f2 (binaryOp .Mult)) pMul := by
  refine pr_op op_mulW fun H x y μ st a b res ra rb S e => ?_
  · unfold pMul2 at e
    split at e
    · rename_i i j
      split at e
      · rename_i c
        cases e
        cases ra with | d ra => cases ra; cases rb with | d rb => cases rb; exact ⟨i, j, rfl, rfl, mulOk.cw c, stayV S (.d (.int _))⟩
      · cases e
    · cases e
theorem ok_fdiv : PrOk X (f2 (binaryOp .FloorDiv)) pFdiv := by
  refine pr_op op_fdivW fun H x y μ st a b res ra rb S e => ?_
  · unfold pFdiv2 at e
    split at e
    · rename_i i j
      split at e
      · rename_i c
        cases e
        cases ra with | d ra => cases ra; cases rb with | d rb => cases rb; exact ⟨i, j, rfl, rfl, c, stayV S (.d (.int _))⟩
      · cases e
    · cases e
theorem ok_mod : PrOk X (f2 (binaryOp .Mod)) pMod := by
  refine pr_op op_mod fun H x y μ st a b res ra rb S e => ?_
  · unfold pMod2 at e
    split at e
    · rename_i i j
      split at e
      · rename_i c
        cases e
        cases ra with | d ra => cases ra; cases rb with | d rb => cases rb; exact ⟨i, j, rfl, rfl, c, stayV S (.d (.int _))⟩
      · cases e
    · cases e
theorem ok_pow : PrOk X (f2 (binaryOp .Pow)) pPow := by
  refine pr_op op_powW fun H x y μ st a b res ra rb S e => ?_
  · unfold pPow2 at e
    split at e
    · rename_i i j
      split at e
      · rename_i c
        cases e
        cases ra with | d ra => cases ra; cases rb with | d rb => cases rb; exact ⟨i, j, rfl, rfl, c, stayV S (.d (.int _))⟩
      · cases e
    · cases e
theorem ok_cmp {op : CmpOp} {p : Int → Int → Bool} (ho : OpR X (compareOp op) (rI0 fun i j => .bl (p i j))) : PrOk X (f2 (compareOp op)) (pCmp p) := by
  refine pr_op ho fun H x y μ st a b res ra rb S e => ?_
  · unfold pCmp2 at e
    split at e
    · rename_i i j
      cases e
      cases ra with | d ra => cases ra; cases rb with | d rb => cases rb; exact ⟨i, j, rfl, rfl, stayV S (.d (.bl _))⟩
    · cases e
theorem ok_lt : PrOk X (f2 (compareOp .Lt)) pLt := ok_cmp op_lt
theorem ok_le : PrOk X (f2 (compareOp .LtE)) pLe := ok_cmp op_le
theorem ok_gt : PrOk X (f2 (compareOp .Gt)) pGt := ok_cmp op_gt
theorem ok_ge : PrOk X (f2 (compareOp .GtE)) pGe := ok_cmp op_ge
/-- two lists put together, wherever they stand -/
def rCatW (K : PySem.W.Frag) : R2 := fun x y H Q => ∃ l b xs zs, x = .ref l ∧ y = .ref b ∧ SqL K H l xs ∧ SqL K H b zs ∧ xs.length + zs.length ≤ sizeLine ∧ ∀ p, H p = none → Q (.ref p) (upd H p (.lst (xs ++ zs)))
theorem op_catW : OpR X (binaryOp .Add) (rCatW X.K) := by
  intro pins s σ H x y v u Q I rx ry h
  obtain ⟨l, b, xs, zs, rfl, rfl, hH, hB, hz, q⟩ := h
  cases rx
  cases ry
  obtain ⟨its, r, p, _⟩ := I.list hH
  obtain ⟨its2, r2, p2, _⟩ := I.list hB
  have l1 := r.length
  have l2 := r2.length
  obtain ⟨⟨cls, dd, data, sl⟩, ho, hc, n, hd⟩ := p.isList
  obtain ⟨⟨cls2, dd2, data2, sl2⟩, ho2, hc2, n2, hd2⟩ := p2.isList
  simp only at hc hd hc2 hd2
  subst hc hd hc2 hd2
  have e : its.toArray ++ its2.toArray = (its ++ its2).toArray := by simp
  refine concat_meets ⟨_, ho, rfl⟩ ⟨_, ho2, rfl⟩ noFill_list_add seq_list_add PySem.F.slot_list_add PySem.F.entry_list_add (PySem.F.args_list_add_2 _ _) (list_addW l b its.toArray its2.toArray n n2 dd dd2 sl sl2 (by simp only [List.size_toArray]; omega)) ⟨ho, ho2, ?_⟩
  rw [e]
  exact ⟨.ref _, _, I.lnew (t' := s.toks) (r.append r2) (by rw [List.length_append]; omega), rfl, q _ I.fresh⟩
theorem ok_add : PrOk X (f2 (binaryOp .Add)) pAdd := by
  refine pr_op (((op_add (X := X)).or (op_add_str (X := X))).or ((op_catA (X := X)).or (op_catW (X := X)))) fun H x y μ st a b res ra rb S e => ?_
  · unfold pAdd2 at e
    split at e
    · rename_i i j
      cases e
      cases ra with | d ra => cases ra; cases rb with | d rb => cases rb; exact .inl (.inl ⟨i, j, rfl, rfl, stayV S (.d (.int _))⟩)
    · rename_i i j
      split at e
      · rename_i c
        cases e
        cases ra with | d ra => cases ra; cases rb with | d rb => cases rb; exact .inl (.inr ⟨i, j, rfl, rfl, c, stayV S (.d (.str _))⟩)
      · cases e
    · rename_i xs ys
      split at e
      · rename_i c
        cases e
        obtain ⟨p, vs, rfl, hp, r1⟩ := asT_rd ra (rfl : asT (.d (.tuple xs)) = some xs)
        obtain ⟨q, ws, rfl, hq, r2⟩ := asT_rd rb (rfl : asT (.d (.tuple ys)) = some ys)
        have l1 := r1.length
        have l2 := r2.length
        refine .inr (.inl ⟨p, q, vs, ws, rfl, rfl, hp, hq, by omega, fun z => ?_, fun _ z => ?_, fun _ _ p hp => newT S (r1.append r2) hp⟩)
        · subst z; cases r1; simpa using stayV S rb
        · subst z; cases r2; simpa using stayV S ra
      · cases e
    · dsimp only at e
      cases e1 : asL st a with
      | none => rw [e1] at e; cases e
      | some xs =>
        rw [e1] at e
        cases e2 : asL st b with
        | none => rw [e2] at e; cases e
        | some ys =>
          rw [e2] at e
          simp only [Option.bind_some] at e
          split at e
          · rename_i c
            cases e
            obtain ⟨p, vs, rfl, hp, r1⟩ := asL_rd S ra e1
            obtain ⟨q, ws, rfl, hq, r2⟩ := asL_rd S rb e2
            have l1 := r1.length
            have l2 := r2.length
            exact .inr (.inr ⟨p, q, vs, ws, rfl, rfl, hp, hq, by omega, fun p hp => newL S (r1.append r2) hp⟩)
          · cases e
theorem ok_neg : PrOk X (f1 (unaryOp .USub)) pNeg := by
  intro pins s σ H vs us μ st as res I rv ra S e
  obtain ⟨a, rfl⟩ := l1_of e
  simp only [pNeg, l1] at e
  unfold pNeg1 at e
  split at e
  · rename_i i
    cases e
    obtain ⟨x, rfl, h1⟩ := ra.one
    obtain ⟨u, rfl, r1⟩ := Vals.one rv
    cases h1 with
    | d h1 =>
      cases h1
      exact thn (un_neg pins s σ H _ u _ I r1 ⟨i, rfl, stayV S (.d (.int _))⟩) fun _ _ q => EPr.of q
  · cases e

/-! == and in -/
theorem eq_parts {a b : PyData} (h : eqOk a b = true) : a.canLay0 = true ∧ b.canLay0 = true ∧ min a.depth b.depth ≤ 64 := by
  unfold eqOk at h
  simp only [Bool.and_eq_true, decide_eq_true_eq] at h
  exact ⟨h.1.1, h.1.2, h.2⟩
def rEqW (K : PySem.W.Frag) : R2 := fun x y H Q => ∃ d e, Dp K H x d ∧ Dp K H y e ∧ eqOk d e = true ∧ Q (.bl (PyData.eqv d e)) H
def rNeW (K : PySem.W.Frag) : R2 := fun x y H Q => ∃ d e, Dp K H x d ∧ Dp K H y e ∧ eqOk d e = true ∧ Q (.bl (!PyData.eqv d e)) H
theorem op_eqW (hu : X.A.units + 64 < cLine) : OpR X (compareOp .Eq) (rEqW X.K) := by
  intro pins s σ H x y v u Q I rx ry h
  obtain ⟨d, e, hd, he, c, q⟩ := h
  obtain ⟨c1, c2, c3⟩ := eq_parts c
  obtain ⟨as, r1⟩ := Dp.reads I d x v hd rx
  obtain ⟨bs, r2⟩ := Dp.reads I e y u he ry
  exact SeqAt.compareEq_reads r1 r2 c1 c2 (by omega) ⟨.bl _, H, I, rfl, q⟩
theorem op_neW (hu : X.A.units + 64 < cLine) : OpR X (compareOp .NotEq) (rNeW X.K) := by
  intro pins s σ H x y v u Q I rx ry h
  obtain ⟨d, e, hd, he, c, q⟩ := h
  obtain ⟨c1, c2, c3⟩ := eq_parts c
  obtain ⟨as, r1⟩ := Dp.reads I d x v hd rx
  obtain ⟨bs, r2⟩ := Dp.reads I e y u he ry
  exact SeqAt.compareNe_reads r1 r2 c1 c2 (by omega) ⟨.bl _, H, I, rfl, q⟩
theorem ok_eq (hu : X.A.units + 64 < cLine) : PrOk X (f2 (compareOp .Eq)) pEq := by
  refine pr_op (op_eqW hu) fun H x y μ st a b res ra rb S e => ?_
  · simp only [pEq2] at e
    cases e1 : asD st a with
    | none => rw [e1] at e; cases e
    | some d =>
      rw [e1] at e
      cases e2 : asD st b with
      | none => rw [e2] at e; cases e
      | some d2 =>
        rw [e2] at e
        simp only [Option.bind_some] at e
        split at e
        · rename_i c
          cases e
          exact ⟨d, d2, asD_dp S ra e1 (eq_parts c).1, asD_dp S rb e2 (eq_parts c).2.1, c, stayV S (.d (.bl _))⟩
        · cases e
theorem ok_ne (hu : X.A.units + 64 < cLine) : PrOk X (f2 (compareOp .NotEq)) pNe := by
  refine pr_op (op_neW hu) fun H x y μ st a b res ra rb S e => ?_
  · simp only [pNe2] at e
    cases e1 : asD st a with
    | none => rw [e1] at e; cases e
    | some d =>
      rw [e1] at e
      cases e2 : asD st b with
      | none => rw [e2] at e; cases e
      | some d2 =>
        rw [e2] at e
        simp only [Option.bind_some] at e
        split at e
        · rename_i c
          cases e
          exact ⟨d, d2, asD_dp S ra e1 (eq_parts c).1, asD_dp S rb e2 (eq_parts c).2.1, c, stayV S (.d (.bl _))⟩
        · cases e
/-! is None; in -/
theorem isN_dec {K : PySem.W.Frag} {mg : Str → Option Value} {μ : Mp} {H : Hp} {x : V} {a : Vl} {b : Bool} (r : RV K mg μ H x a) (e : isN a = some b) : decide (x = .non) = b := by
  cases a with
  | d d =>
    cases r with
    | d r => cases r <;> (simp only [isN] at e; cases e) <;> first | rfl | exact decide_eq_false nofun
  | ref n => cases r; simp only [isN] at e; cases e; exact decide_eq_false nofun
  | gl x => cases r; simp only [isN] at e; cases e; exact decide_eq_false nofun
  | ty x => cases r; simp only [isN] at e; cases e; exact decide_eq_false nofun
theorem ok_is : PrOk X (f2 (compareOp .Is)) pIs := by
  refine pr_op op_isN fun H x y μ st a b res ra rb S e => ?_
  unfold pIs2 at e
  split at e
  · cases h : isN a with
    | none => rw [h] at e; cases e
    | some k =>
      rw [h] at e
      cases e
      cases rb with | d rb => cases rb; exact ⟨rfl, by rw [isN_dec ra h]; exact stayV S (.d (.bl _))⟩
  · cases e
theorem ok_isnt : PrOk X (f2 (compareOp .IsNot)) pIsnt := by
  refine pr_op op_notN fun H x y μ st a b res ra rb S e => ?_
  unfold pIsnt2 at e
  split at e
  · cases h : isN a with
    | none => rw [h] at e; cases e
    | some k =>
      rw [h] at e
      cases e
      cases rb with | d rb => cases rb; exact ⟨rfl, by rw [isN_dec ra h]; exact stayV S (.d (.bl _))⟩
  · cases e
theorem in_parts {d : PyData} {ds : List PyData} (h : inOk d ds = true) : d.canLay0 = true ∧ PyData.canLayAll0 ds = true ∧ d.depth ≤ 64 := by
  unfold inOk at h
  simp only [Bool.and_eq_true, decide_eq_true_eq] at h
  exact ⟨h.1.1, h.1.2, h.2⟩
def rInW (K : PySem.W.Frag) (neg : Bool) : R2 := fun x y H Q => ∃ d ds, Dp K H x d ∧ (Dp K H y (.list ds) ∨ Dp K H y (.tuple ds)) ∧ inOk d ds = true ∧ Q (.bl (neg ^^ ds.any fun z => PyData.eqv z d)) H
theorem op_inW (hu : X.A.units + 66 < cLine) : OpR X (compareOp .In) (rInW X.K false) := by
  intro pins s σ H x y v u Q I rx ry h
  obtain ⟨d, ds, hd, he, c, q⟩ := h
  obtain ⟨c1, c2, c3⟩ := in_parts c
  rw [Bool.false_xor] at q
  obtain ⟨as, r1⟩ := Dp.reads I d x v hd rx
  rcases he with he | he
  · obtain ⟨bs, r2⟩ := Dp.reads I (.list ds) y u he ry
    exact SeqAt.in_list_reads r2 r1 c2 c1 (by omega) ⟨.bl _, H, I, rfl, q⟩
  · obtain ⟨bs, r2⟩ := Dp.reads I (.tuple ds) y u he ry
    exact SeqAt.in_tuple_reads r2 r1 c2 c1 (by omega) ⟨.bl _, H, I, rfl, q⟩
theorem op_notInW (hu : X.A.units + 66 < cLine) : OpR X (compareOp .NotIn) (rInW X.K true) := by
  intro pins s σ H x y v u Q I rx ry h
  obtain ⟨d, ds, hd, he, c, q⟩ := h
  obtain ⟨c1, c2, c3⟩ := in_parts c
  rw [Bool.true_xor] at q
  obtain ⟨as, r1⟩ := Dp.reads I d x v hd rx
  rcases he with he | he
  · obtain ⟨bs, r2⟩ := Dp.reads I (.list ds) y u he ry
    exact SeqAt.notIn_list_reads r2 r1 c2 c1 (by omega) ⟨.bl _, H, I, rfl, q⟩
  · obtain ⟨bs, r2⟩ := Dp.reads I (.tuple ds) y u he ry
    exact SeqAt.notIn_tuple_reads r2 r1 c2 c1 (by omega) ⟨.bl _, H, I, rfl, q⟩
theorem asQ_dp {μ : Mp} {H : Hp} {st : Sto} {v : V} {a : Vl} {ds : List PyData} (S : RSt X.K μ H st) (r : RV X.K X.mg μ H v a) (e : asQ st a = some ds) (c : PyData.canLayAll0 ds = true) : Dp X.K H v (.list ds) ∨ Dp X.K H v (.tuple ds) := by
  obtain ⟨p, vs, rfl, h, q⟩ := asQ_rd S r e
  rcases h with h | h
  · exact .inl (.lst h (q.dp c))
  · exact .inr (.tup h (q.dp c))
theorem in_core {neg : Bool} {op : CmpOp} (h1 : OpR X (compareOp op) (rInW X.K neg)) (h2 : OpR X (compareOp op) (fun x y H Q => ∃ i j, x = .str i ∧ y = .str j ∧ Q (.bl (neg ^^ !(Builtin.Str.occurrences j i 0 j.length 1).isEmpty)) H)) : PrOk X (f2 (compareOp op)) (pIn neg) := by
  refine pr_op (h2.or h1) fun H x y μ st a b res ra rb S e => ?_
  unfold pIn2 at e
  split at e
  · rename_i i j
    cases e
    cases ra with | d ra => cases ra; cases rb with | d rb => cases rb; exact .inl ⟨i, j, rfl, rfl, stayV S (.d (.bl _))⟩
  · dsimp only at e
    cases e1 : asD st a with
    | none => rw [e1] at e; cases e
    | some d =>
      rw [e1] at e
      cases e2 : asQ st b with
      | none => rw [e2] at e; cases e
      | some ds =>
        rw [e2] at e
        simp only [Option.bind_some] at e
        split at e
        · rename_i c
          cases e
          exact .inr ⟨d, ds, asD_dp S ra e1 (in_parts c).1, asQ_dp S rb e2 (in_parts c).2.1, c, stayV S (.d (.bl _))⟩
        · cases e
theorem ok_in (hu : X.A.units + 66 < cLine) : PrOk X (f2 (compareOp .In)) (pIn false) :=
  in_core (op_inW hu) (by simpa only [Bool.false_xor] using op_in_str)
theorem ok_notin (hu : X.A.units + 66 < cLine) : PrOk X (f2 (compareOp .NotIn)) (pIn true) :=
  in_core (op_notInW hu) (by simpa only [Bool.true_xor] using op_notIn_str)
end
end Iv
set_option Elab.async false
set_option linter.all false
set_option maxRecDepth 100000
set_option maxHeartbeats 4000000
/-! Iv4: readings of primitives; index, slice, displays, builtins. -/
namespace Iv
open PySem PySem.Spec PyProof.Rows L2
section
variable {X : Cx}
/-- what is to hold behind a primitive's value -/
def PK1 (X : Cx) (μ : Mp) (H : Hp) (r : Vl × Sto) (Q : VK) : Prop := ∀ (v : V) (H' : Hp) (μ' : Mp), Grow μ H μ' H' → RSt X.K μ' H' r.2 → RV X.K X.mg μ' H' v r.1 → Q v H'
def rP (X : Cx) (p : P2) : R2 := fun x y H Q => ∃ (μ : Mp) (st : Sto) (a b : Vl) (r : Vl × Sto), RV X.K X.mg μ H x a ∧ RV X.K X.mg μ H y b ∧ RSt X.K μ H st ∧ p a b st = some r ∧ PK1 X μ H r Q
def rP1 (X : Cx) (p : P1) : V → Hp → VK → Prop := fun x H Q => ∃ (μ : Mp) (st : Sto) (a : Vl) (r : Vl × Sto), RV X.K X.mg μ H x a ∧ RSt X.K μ H st ∧ p a st = some r ∧ PK1 X μ H r Q
def rPs (X : Cx) (p : Pr) : List V → Hp → VK → Prop := fun xs H Q => ∃ (μ : Mp) (st : Sto) (as : List Vl) (r : Vl × Sto), RVs X.K X.mg μ H xs as ∧ RSt X.K μ H st ∧ p as st = some r ∧ PK1 X μ H r Q
theorem EPr.to {pins : List (Addr × Obj)} {σ : L2.St} {μ : Mp} {H : Hp} {r : Vl × Sto} {u : Value} {s' : Shared} {Q : VK} (h : EPr X pins σ μ H r u s') (q : PK1 X μ H r Q) : EP X pins σ Q u s' := by
  obtain ⟨v, H', μ', I, rv, g, s, w⟩ := h
  exact ⟨v, H', I, rv, q v H' μ' g s w⟩
theorem PrOk.op {f : Value → Value → Sem Value} {p : P2} (h : PrOk X (f2 f) (l2 p)) : OpR X f (rP X p) := by
  intro pins s σ H x y v u Q I r1 r2 ⟨μ, st, a, b, r, ra, rb, S, e, q⟩
  exact thn (h pins s σ H [x, y] [v, u] μ st [a, b] r I (.cons r1 (.cons r2 .nil)) (.cons ra (.cons rb .nil)) S e) fun _ _ z => z.to q
theorem PrOk.un {f : Value → Sem Value} {p : P1} (h : PrOk X (f1 f) (l1 p)) : UnR X f (rP1 X p) := by
  intro pins s σ H x v Q I r1 ⟨μ, st, a, r, ra, S, e, q⟩
  exact thn (h pins s σ H [x] [v] μ st [a] r I (.cons r1 .nil) (.cons ra .nil) S e) fun _ _ z => z.to q
theorem PrOk.call {f : Value} {p : Pr} (h : PrOk X (fun us => call f us) p) : CallR X f (rPs X p) := by
  intro pins s σ H xs us Q I r1 ⟨μ, st, as, r, ra, S, e, q⟩
  exact thn (h pins s σ H xs us μ st as r I r1 ra S e) fun _ _ z => z.to q
/-- a call by a rule of HandS -/
theorem pr_call {f : Value} {r : List V → Hp → VK → Prop} {p : Pr} (ho : CallR X f r)
    (h : ∀ (H : Hp) (xs : List V) (μ : Mp) (st : Sto) (as : List Vl) (res : Vl × Sto), RVs X.K X.mg μ H xs as → RSt X.K μ H st → p as st = some res →
      r xs H fun v H' => ∃ μ', Grow μ H μ' H' ∧ RSt X.K μ' H' res.2 ∧ RV X.K X.mg μ' H' v res.1) : PrOk X (fun us => call f us) p := by
  intro pins s σ H vs us μ st as res I rv ra S e
  exact thn (ho pins s σ H vs us _ I rv (h H vs μ st as res ra S e)) fun _ _ q => EPr.of q

/-! ### index -/
def pIx2 : P2
  | .d (.str x), .d (.int i) => fun st => (atI x.cps.toList i).bind fun c => if x.length ≤ sizeLine then some (.d (.str ⟨#[c]⟩), st) else none
  | a, .d (.int i) => fun st => (asQ st a).bind fun xs => (atI xs i).map fun d => (.d d, st)
  | _, _ => fun _ => none
def pIx : Pr := l2 pIx2
theorem atI_rp {K : PySem.W.Frag} {μ : Mp} {H : Hp} {vs : List V} {ds : List PyData} (r : RPs K μ H vs ds) {i : Int} {d : PyData} (e : atI ds i = some d) : ∃ v, atI vs i = some v ∧ RP K μ H v d := by
  unfold atI at e ⊢
  rw [r.length]
  cases h : ixN ds.length i with
  | none => rw [h] at e; cases e
  | some j =>
    rw [h] at e
    obtain ⟨v, h1, h2⟩ := r.get e
    exact ⟨v, h1, h2⟩
theorem rx_ok : IxR X (rP X pIx2) := by
  intro value slice pins s σ H x y v u Q I rx ry ⟨μ, st, a, b, r, ra, rb, S, e, q⟩ hs
  refine ix_seq value slice pins s σ H x y v u Q I rx ry ?_ hs
  unfold pIx2 at e
  split at e
  · rename_i z i
    cases e1 : atI z.cps.toList i with
    | none => rw [e1] at e; cases e
    | some c =>
      rw [e1] at e
      simp only [Option.bind_some] at e
      split at e
      · rename_i hz
        cases e
        cases ra with | d ra => cases ra; cases rb with | d rb => cases rb; exact .inr (.inr ⟨z, i, c, rfl, rfl, hz, e1, q _ _ μ (Grow.refl _ _) S (.d (.str _))⟩)
      · cases e
  · rename_i i _
    dsimp only at e
    cases e1 : asQ st a with
    | none => rw [e1] at e; cases e
    | some xs =>
      rw [e1] at e
      cases e2 : atI xs i with
      | none => rw [Option.bind_some, e2] at e; cases e
      | some d =>
        rw [Option.bind_some, e2] at e
        cases e
        obtain ⟨p, vs, rfl, hp, r1⟩ := asQ_rd S ra e1
        obtain ⟨w, h1, h2⟩ := atI_rp r1 e2
        cases rb with
        | d rb =>
          cases rb
          rcases hp with hp | hp
          · exact .inl ⟨p, vs, i, w, rfl, rfl, hp, h1, q _ _ μ (Grow.refl _ _) S (.d h2)⟩
          · exact .inr (.inl ⟨p, vs, i, w, rfl, rfl, hp, h1, q _ _ μ (Grow.refl _ _) S (.d h2)⟩)
  · cases e

/-! ### slices -/
def cutD (xs : List PyData) (lo hi : Option Int) : List PyData := (xs.drop (HT.sIx xs.length 0 lo)).take (HT.sIx xs.length xs.length hi - HT.sIx xs.length 0 lo)
def pSl (lo hi : Option Int) : P1
  | .d (.tuple xs) => fun st => some (.d (.tuple (cutD xs lo hi)), st)
  | a => fun st => (asL st a).map fun xs => (.d (.list (cutD xs lo hi)), st)
theorem cut_rp {K : PySem.W.Frag} {μ : Mp} {H : Hp} {vs : List V} {ds : List PyData} (r : RPs K μ H vs ds) (lo hi : Option Int) : RPs K μ H (cutV vs lo hi) (cutD ds lo hi) := by
  unfold cutV cutD
  rw [r.length]
  exact (r.drop _).take _
theorem cut_whole (xs : List V) (lo hi : Option Int) (h : HT.sIx xs.length 0 lo = 0 ∧ HT.sIx xs.length xs.length hi = xs.length) : cutV xs lo hi = xs := by
  unfold cutV
  rw [h.1, h.2]
  simp
def rSlP (X : Cx) : V → Option Int → Option Int → Hp → VK → Prop := fun x lo hi H Q => ∃ (μ : Mp) (st : Sto) (a : Vl) (r : Vl × Sto), RV X.K X.mg μ H x a ∧ RSt X.K μ H st ∧ pSl lo hi a st = some r ∧ PK1 X μ H r Q
theorem sl_ok : SlR X (rSlP X) := by
  intro pins s σ H x v vl vu lo hi sl Q I rx hs pl pu ⟨μ, st, a, r, ra, S, e, q⟩
  refine ((sl_tupA (X := X)).or (sl_list (X := X))) pins s σ H x v vl vu lo hi sl Q I rx hs pl pu ?_
  unfold pSl at e
  split at e
  · rename_i xs
    cases e
    obtain ⟨p, vs, rfl, hp, r1⟩ := asT_rd ra (rfl : asT (.d (.tuple xs)) = some xs)
    refine .inl ⟨p, vs, rfl, hp, fun hw => ?_, fun _ p hp => ?_⟩
    · refine q _ _ μ (Grow.refl _ _) S ?_
      have e1 := cut_rp r1 lo hi
      rw [cut_whole _ _ _ hw] at e1
      cases ra with | d ra => cases ra with | tup ht _ => exact .d (.tup (by
        have := Inv.tuple_inj I ht.sq hp
        subst this
        exact ht) e1)
    · obtain ⟨μ', g, S', w⟩ := newT (X := X) S (cut_rp r1 lo hi) hp
      exact q _ _ μ' g S' w
  · dsimp only at e
    cases e1 : asL st a with
    | none => rw [e1] at e; cases e
    | some xs =>
      rw [e1] at e
      cases e
      obtain ⟨p, vs, rfl, hp, r1⟩ := asL_rd S ra e1
      refine .inr ⟨p, vs, rfl, hp, fun p hp => ?_⟩
      obtain ⟨μ', g, S', w⟩ := newL (X := X) S (cut_rp r1 lo hi) hp
      exact q _ _ μ' g S' w

/-! ### builtins -/
def pLen1 : P1
  | .d (.str x) => fun st => if x.length ≤ sizeLine then some (.d (.int x.length), st) else none
  | .d (.dict _) => fun _ => none
  | a => fun st => (asQ st a).map fun xs => (.d (.int xs.length), st)
def pLen : Pr := l1 pLen1
theorem ok_len : PrOk X (fun us => call (.builtin "len") us) pLen := by
  refine pr_call call_len fun H xs μ st as res ras S e => ?_
  obtain ⟨a, rfl⟩ := l1_of e
  obtain ⟨x, rfl, ra⟩ := ras.one
  simp only [pLen, l1] at e
  unfold pLen1 at e
  split at e
  · rename_i z
    split at e
    · rename_i hz
      cases e
      cases ra with | d ra => cases ra; exact ⟨_, _, rfl, ⟨hz, rfl⟩, stayV S (.d (.int _))⟩
    · cases e
  · cases e
  · dsimp only at e
    cases e1 : asQ st a with
    | none => rw [e1] at e; cases e
    | some xs =>
      rw [e1] at e
      cases e
      obtain ⟨p, vs, rfl, hp, r1⟩ := asQ_rd S ra e1
      refine ⟨_, vs.length, rfl, ?_, ?_⟩
      · rcases hp with hp | hp
        · exact .inl ⟨vs, hp, rfl⟩
        · exact .inr ⟨vs, hp, rfl⟩
      · rw [r1.length]
        exact stayV S (.d (.int _))
def pAbs1 : P1
  | .d (.int i) => fun st => some (.d (.int (if i < 0 then -i else i)), st)
  | _ => fun _ => none
def pAbs : Pr := l1 pAbs1
theorem ok_abs : PrOk X (fun us => call (.builtin "abs") us) pAbs := by
  refine pr_call call_abs fun H xs μ st as res ras S e => ?_
  obtain ⟨a, rfl⟩ := l1_of e
  obtain ⟨x, rfl, ra⟩ := ras.one
  simp only [pAbs, l1] at e
  unfold pAbs1 at e
  split at e
  · rename_i i
    cases e
    cases ra with | d ra => cases ra; exact ⟨i, rfl, stayV S (.d (.int _))⟩
  · cases e
def pInt1 : P1
  | .d (.int i) => fun st => some (.d (.int i), st)
  | .d (.bool k) => fun st => some (.d (.int (if k then 1 else 0)), st)
  | _ => fun _ => none
def pInt : Pr := l1 pInt1
theorem ok_int : PrOk X (fun us => call (.type "int") us) pInt := by
  refine pr_call call_int1 fun H xs μ st as res ras S e => ?_
  obtain ⟨a, rfl⟩ := l1_of e
  obtain ⟨x, rfl, ra⟩ := ras.one
  simp only [pInt, l1] at e
  unfold pInt1 at e
  split at e
  · rename_i i
    cases e
    cases ra with | d ra => cases ra; exact .inl ⟨i, rfl, stayV S (.d (.int _))⟩
  · rename_i k
    cases e
    cases ra with | d ra => cases ra; exact .inr ⟨k, rfl, stayV S (.d (.int _))⟩
  · cases e
def pMax2 : P2
  | .d (.int i), .d (.int j) => fun st => some (.d (.int (if j > i then j else i)), st)
  | _, _ => fun _ => none
def pMin2 : P2
  | .d (.int i), .d (.int j) => fun st => some (.d (.int (if j < i then j else i)), st)
  | _, _ => fun _ => none
def pMax : Pr := l2 pMax2
def pMin : Pr := l2 pMin2
theorem ok_max (hc : X.calm = true) : PrOk X (fun us => call (.builtin "max") us) pMax := by
  refine pr_call (call_max2 hc) fun H xs μ st as res ras S e => ?_
  obtain ⟨a, b, rfl⟩ := l2_of e
  obtain ⟨x, y, rfl, ra, rb⟩ := ras.two
  simp only [pMax, l2] at e
  unfold pMax2 at e
  split at e
  · rename_i i j
    cases e
    cases ra with | d ra => cases ra; cases rb with | d rb => cases rb; exact ⟨i, j, rfl, stayV S (.d (.int _))⟩
  · cases e
theorem ok_min (hc : X.calm = true) : PrOk X (fun us => call (.builtin "min") us) pMin := by
  refine pr_call (call_min2 hc) fun H xs μ st as res ras S e => ?_
  obtain ⟨a, b, rfl⟩ := l2_of e
  obtain ⟨x, y, rfl, ra, rb⟩ := ras.two
  simp only [pMin, l2] at e
  unfold pMin2 at e
  split at e
  · rename_i i j
    cases e
    cases ra with | d ra => cases ra; cases rb with | d rb => cases rb; exact ⟨i, j, rfl, stayV S (.d (.int _))⟩
  · cases e
/-- a list's items as truths, as whole numbers -/
def bools : List PyData → Option (List Bool)
  | [] => some []
  | .bool b :: r => (bools r).map (b :: ·)
  | _ :: _ => none
def intsD : List PyData → Option (List Int)
  | [] => some []
  | .int b :: r => (intsD r).map (b :: ·)
  | _ :: _ => none
theorem bools_rp {K : PySem.W.Frag} {μ : Mp} {H : Hp} : ∀ {ds : List PyData} {vs : List V} {bs : List Bool}, RPs K μ H vs ds → bools ds = some bs → vs = bs.map V.bl
  | [], _, _, .nil, e => by simp [bools] at e; subst e; rfl
  | d :: ds, _, bs, .cons h r, e => by
    cases d <;> simp [bools] at e
    obtain ⟨cs, e1, rfl⟩ := e
    cases h
    rw [bools_rp r e1]; rfl
theorem intsD_rp {K : PySem.W.Frag} {μ : Mp} {H : Hp} : ∀ {ds : List PyData} {vs : List V} {bs : List Int}, RPs K μ H vs ds → intsD ds = some bs → vs = bs.map V.int
  | [], _, _, .nil, e => by simp [intsD] at e; subst e; rfl
  | d :: ds, _, bs, .cons h r, e => by
    cases d <;> simp [intsD] at e
    obtain ⟨cs, e1, rfl⟩ := e
    cases h
    rw [intsD_rp r e1]; rfl
def pAll1 : P1 := fun a st => (asL st a).bind fun xs => (bools xs).map fun bs => (.d (.bool (bs.all id)), st)
def pAny1 : P1 := fun a st => (asL st a).bind fun xs => (bools xs).map fun bs => (.d (.bool (bs.any id)), st)
def pSum1 : P1 := fun a st => (asL st a).bind fun xs => (intsD xs).map fun bs => (.d (.int bs.sum), st)
def pAll : Pr := l1 pAll1
def pAny : Pr := l1 pAny1
def pSum : Pr := l1 pSum1
theorem ok_all (hc : X.calm = true) : PrOk X (fun us => call (.builtin "all") us) pAll := by
  refine pr_call (cr_all hc) fun H xs μ st as res ras S e => ?_
  obtain ⟨a, rfl⟩ := l1_of e
  obtain ⟨x, rfl, ra⟩ := ras.one
  simp only [pAll, l1, pAll1] at e
  cases e1 : asL st a with
  | none => rw [e1] at e; cases e
  | some ds =>
    rw [e1, Option.bind_some] at e
    cases e2 : bools ds with
    | none => rw [e2] at e; cases e
    | some bs =>
      rw [e2] at e
      cases e
      obtain ⟨p, vs, rfl, hp, r1⟩ := asL_rd S ra e1
      exact ⟨p, bs, rfl, by rw [← bools_rp r1 e2]; exact hp, stayV S (.d (.bl _))⟩
theorem ok_any (hc : X.calm = true) : PrOk X (fun us => call (.builtin "any") us) pAny := by
  refine pr_call (cr_any hc) fun H xs μ st as res ras S e => ?_
  obtain ⟨a, rfl⟩ := l1_of e
  obtain ⟨x, rfl, ra⟩ := ras.one
  simp only [pAny, l1, pAny1] at e
  cases e1 : asL st a with
  | none => rw [e1] at e; cases e
  | some ds =>
    rw [e1, Option.bind_some] at e
    cases e2 : bools ds with
    | none => rw [e2] at e; cases e
    | some bs =>
      rw [e2] at e
      cases e
      obtain ⟨p, vs, rfl, hp, r1⟩ := asL_rd S ra e1
      exact ⟨p, bs, rfl, by rw [← bools_rp r1 e2]; exact hp, stayV S (.d (.bl _))⟩
theorem ok_sum (hc : X.calm = true) : PrOk X (fun us => call (.builtin "sum") us) pSum := by
  refine pr_call (cr_sum hc) fun H xs μ st as res ras S e => ?_
  obtain ⟨a, rfl⟩ := l1_of e
  obtain ⟨x, rfl, ra⟩ := ras.one
  simp only [pSum, l1, pSum1] at e
  cases e1 : asL st a with
  | none => rw [e1] at e; cases e
  | some ds =>
    rw [e1, Option.bind_some] at e
    cases e2 : intsD ds with
    | none => rw [e2] at e; cases e
    | some bs =>
      rw [e2] at e
      cases e
      obtain ⟨p, vs, rfl, hp, r1⟩ := asL_rd S ra e1
      exact ⟨p, bs, rfl, by rw [← intsD_rp r1 e2]; exact hp, stayV S (.d (.int _))⟩
/-- list(x), tuple(x): lists that are never changed -/
def pList1 : P1 := fun a st => (asQ st a).map fun xs => (.d (.list xs), st)
def pList : Pr := l1 pList1
def pTuple1 : P1 := fun a st => (asQ st a).map fun xs => (.d (.tuple xs), st)
def pTuple : Pr := l1 pTuple1
theorem ok_list : PrOk X (fun us => call (.type "list") us) pList := by
  refine pr_call call_list_of fun H xs μ st as res ras S e => ?_
  obtain ⟨a, rfl⟩ := l1_of e
  obtain ⟨x, rfl, ra⟩ := ras.one
  simp only [pList, l1, pList1] at e
  cases e1 : asQ st a with
  | none => rw [e1] at e; cases e
  | some ds =>
    rw [e1] at e
    cases e
    obtain ⟨p, vs, rfl, hp, r1⟩ := asQ_rd S ra e1
    exact ⟨p, vs, rfl, hp, fun l hl => newL S r1 hl⟩
theorem ok_tuple : PrOk X (fun us => call (.type "tuple") us) pTuple := by
  refine pr_call call_tuple_of fun H xs μ st as res ras S e => ?_
  obtain ⟨a, rfl⟩ := l1_of e
  obtain ⟨x, rfl, ra⟩ := ras.one
  simp only [pTuple, l1, pTuple1] at e
  cases e1 : asQ st a with
  | none => rw [e1] at e; cases e
  | some ds =>
    rw [e1] at e
    cases e
    unfold asQ at e1
    cases h : asT a with
    | some ys =>
      rw [h] at e1
      simp at e1
      subst e1
      obtain ⟨p, vs, rfl, hp, r1⟩ := asT_rd ra h
      refine ⟨p, vs, rfl, .inr ⟨hp, ?_⟩⟩
      cases a with
      | d x =>
        cases x <;> simp [asT] at h
        subst h
        exact stayV S ra
      | ref n => simp [asT] at h
      | gl x => simp [asT] at h
      | ty x => simp [asT] at h
    | none =>
      rw [h] at e1
      simp at e1
      obtain ⟨p, vs, rfl, hp, r1⟩ := asL_rd S ra e1
      exact ⟨p, vs, rfl, .inl ⟨hp, fun l hl => newT S r1 hl⟩⟩
/-! ### isinstance, repr -/
def tyD : PyData → Ty
  | .none => .non
  | .bool _ => .bl
  | .int _ => .int
  | .str _ => .str
  | .list _ => .lst
  | .tuple _ => .tup
  | .dict _ => .dct
def tyS (st : Sto) : Vl → Option Ty
  | .d x => some (tyD x)
  | .ref n => match st[n]? with
    | some (.lst _) => some .lst
    | some (.dct _) => some .dct
    | _ => none
  | _ => none
/-- whether what is of the one is of the other -/
def isi (t u : Ty) : Bool := t == u || (t == .bl && u == .int)
def pIsi2 : P2
  | a, .ty u => fun st => if u = .non then none else (tyS st a).map fun t => (.d (.bool (isi t u)), st)
  | _, _ => fun _ => none
def pIsi : Pr := l2 pIsi2
theorem tyx_rp {K : PySem.W.Frag} {μ : Mp} {H : Hp} {v : V} {d : PyData} (r : RP K μ H v d) : TyX K H v (.type (tyD d).name) := by
  cases r with
  | non => exact .base .non
  | bl b => exact .base (.bl b)
  | int i => exact .base (.int i)
  | str x => exact .base (.str x)
  | lst h _ =>
    rcases h with ⟨e | ⟨o, e⟩, _⟩ | ⟨o, _, _, e, c, _⟩
    · exact .base (.lst e)
    · exact .base (.frz e)
    · exact .kList e c
  | tup h _ =>
    rcases h with ⟨e | ⟨o, e⟩, _⟩ | ⟨o, _, _, e, c, _⟩
    · exact .base (.tup e)
    · exact .fTuple e
    · exact .kTuple e c
  | dct h _ _ =>
    rcases h with e | ⟨o, e⟩
    · exact .base (.dK e)
    · exact .fDict e
theorem isi_kit {K : PySem.W.Frag} (t u : Ty) (h : u ≠ .non) : PySem.W.kitOne K (.type t.name) (.type u.name) = some (isi t u) := by
  cases u <;> first | exact absurd rfl h | (cases t <;> exact kit_ty (by decide +kernel))
theorem ok_isi : PrOk X (fun us => call (.builtin "isinstance") us) pIsi := by
  refine pr_call call_isi fun H xs μ st as res ras S e => ?_
  obtain ⟨a, b, rfl⟩ := l2_of e
  obtain ⟨x, y, rfl, ra, rb⟩ := ras.two
  simp only [pIsi, l2] at e
  unfold pIsi2 at e
  split at e
  · rename_i u
    split at e
    · cases e
    · rename_i hu
      cases e1 : tyS st a with
      | none => rw [e1] at e; cases e
      | some t =>
        rw [e1] at e
        cases e
        cases rb with
        | ty u =>
          refine ⟨x, .ty u.name, .type t.name, .type u.name, _, rfl, .ty _, ?_, isi_kit t u hu, stayV S (.d (.bl _))⟩
          cases a with
          | d d => cases e1; cases ra with | d ra => exact tyx_rp ra
          | ref n =>
            cases ra with
            | ref ra =>
              simp only [tyS] at e1
              split at e1
              · rename_i ys hy
                cases e1
                rcases ra with r | r
                · obtain ⟨vs, h1, h2⟩ := S.cell n _ _ r hy
                  exact .base (.lst h1)
                · exact (S.cell n _ _ r hy).elim
              · rename_i ys hy
                cases e1
                rcases ra with r | r
                · obtain ⟨vs, h1, h2⟩ := S.cell n _ _ r hy
                  exact .base (.dK h1)
                · exact (S.cell n _ _ r hy).elim
              · cases e1
          | gl x => cases e1
          | ty x => cases e1
  · cases e
/-- what repr shows -/
def reprOk (d : PyData) : Bool := d.canLay0 && d.showable && decide (d.depth ≤ 64) && decide (d.shown.length ≤ sizeLine)
def pRepr1 : P1 := fun a st => (asD st a).bind fun d => if reprOk d = true then some (.d (.str d.shown), st) else none
def pRepr : Pr := l1 pRepr1
theorem ok_repr (hu : X.A.units + 66 < cLine) (gd : X.A.guards = some []) : PrOk X (fun us => call (.builtin "repr") us) pRepr := by
  intro pins s σ H vs us μ st as res I rv ras S e
  obtain ⟨a, rfl⟩ := l1_of e
  obtain ⟨x, rfl, ra⟩ := ras.one
  obtain ⟨u, rfl, ru⟩ := Vals.one rv
  simp only [pRepr, l1, pRepr1] at e
  cases e1 : asD st a with
  | none => rw [e1] at e; cases e
  | some d =>
    rw [e1, Option.bind_some] at e
    split at e
    · rename_i c
      cases e
      unfold reprOk at c
      simp only [Bool.and_eq_true, decide_eq_true_eq] at c
      obtain ⟨⟨⟨c1, c2⟩, c3⟩, c4⟩ := c
      have dp := asD_dp S ra e1 c1
      have fin : ∀ {s' : Shared} {tk : Tok}, Inv X pins σ H s' → EPr X pins σ μ H (.d (.str d.shown), st) (.str d.shown tk) s' := fun J => ⟨.str d.shown, H, μ, J, ⟨_, rfl⟩, Grow.refl _ _, S, .d (.str _)⟩
      show wpAny _ _ (call (.builtin "repr") [u]) _ _ _
      cases d with
      | none => cases dp; cases ru; exact P.repr_of_none (fin (I.tok _))
      | bool b => cases dp; cases ru; exact P.repr_of_bool (by have z := fin (s' := { s with toks := s.toks + 1 }) (tk := s.toks) (I.tok _); cases b <;> exact z)
      | int i => cases dp; obtain ⟨t, rfl⟩ := ru; exact P.repr_of_int (by simpa [PyData.showable] using c2) (fin (I.tok _))
      | str z => cases dp; obtain ⟨t, rfl⟩ := ru; exact P.repr_of_str (fin (I.tok _)) c4
      | list ds =>
        obtain ⟨bs, rd⟩ := Dp.reads I _ _ _ dp ru
        cases dp
        cases ru
        exact repr_of_reads' rd c2 (PyData.noDict_hsm (PyData.hasDict_of_canLay _ c1)) gd (by omega) (fun _ _ q => q) (fun h' t tk k => fin (I.kept k)) c4
      | tuple ds =>
        obtain ⟨bs, rd⟩ := Dp.reads I _ _ _ dp ru
        cases dp
        cases ru
        exact repr_of_reads' rd c2 (PyData.noDict_hsm (PyData.hasDict_of_canLay _ c1)) gd (by omega) (fun _ _ q => q) (fun h' t tk k => fin (I.kept k)) c4
      | dict ds => simp [PyData.canLay0] at c1
    · cases e
end
end Iv
set_option Elab.async false
set_option linter.all false
set_option maxRecDepth 100000
set_option maxHeartbeats 4000000
/-! Iv4b: a def's promise where nothing is being shown (no guards around). -/
namespace Iv
open PySem PySem.Spec PyProof.Rows L2
structure FnG (Pr0 : Program) (w : World) (K : PySem.W.Frag) (mg : Str → Option Value) (base : Heap) (k : Nat) (f : Addr) (fd : FuncData) (ps : List Str) (sp : Sp) : Prop where
  len : ∀ vs H Q E, sp vs H Q E → vs.length = ps.length
  run : ∀ (A : Around) (out : List PySem.Env) (s : Shared) (H : Hp) (ag : Args) (us : List Value) (vs : List V) (Q : VK) (E : XK), Room k A → A.guards = some [] → Env0 Pr0 w K mg base A out s H → BindsTo s fd ag (ps.zip us) → Vals vs us → sp vs H Q E →
    codeAny (model Pr0 w) A (.call (.ref f) ag) (CR (L2.CX Pr0 w) out Pr0 w H s Q E) s
section
variable {X : Cx} {k : Nat} {f : Addr} {fd : FuncData} {ps : List Str} {sp : Sp} {E : L2.St → XK}
theorem run_g {pins : List (Addr × Obj)} {σ : L2.St} {H : Hp} {s : Shared} {Q : VK} {us : List Value} {vs : List V} (F : FnG X.prog X.w X.K X.mg X.base k f fd ps sp) (room : Room k X.A) (gd : X.A.guards = some []) (bn : Binds X.K fd ps []) (pass : PassesAt (L2.CX X.prog X.w) X σ (E σ))
    (J : Inv X pins σ H s) (rv : Vals vs us) (ask : sp vs H Q (E σ)) : wpAny (model X.prog X.w) X.A (call (.ref f) us) (EP X pins σ Q) X.xe s := by
  have many : us.length = ps.length := rv.length.symm.trans (F.len _ _ _ _ ask)
  have bb : BindsTo s fd ⟨us, []⟩ (ps.zip us) := by
    have z := bn s us J.kIn (by simpa using many)
    simpa using z
  refine wpAny_call (codeAny_mono (F.run X.A X.stack s H ⟨us, []⟩ us vs Q (E σ) room gd J.env0 bb rv ask) fun res s2 fin => ?_)
  match res, fin with
  | .error x, fin => exact pass pins H s x s2 J fin
  | .ok (.ret u), fin => exact J.after fin
  | .ok .next, fin => exact fin.elim
  | .ok .brk, fin => exact fin.elim
  | .ok .cont, fin => exact fin.elim
theorem pe_callG {x : Str} {p pos : Pos} {e : Expr} {es : List Expr} {t : TA} (F : FnG X.prog X.w X.K X.mg X.base k f fd ps sp) (room : Room k X.A) (gd : X.A.guards = some []) (gl : Gl X x) (at_ : X.mg x = some (.ref f)) (keep : PySem.W.keepIn X.K (.ref f) = true)
    (bn : Binds X.K fd ps []) (pass : ∀ σ, PassesAt (L2.CX X.prog X.w) X σ (E σ)) (args : PA X (e :: es) t) (nodb : (x == ("__debug__" : Str)) = false) (st1 : starEach (e :: es) X.env = (false, eval e X.env) :: starEach es X.env)
    (st2 : (backTo pos (starEach es X.env)).any (·.1) = false) : PE X (.Call (.Name x p) (e :: es) [] pos) (tCallS sp E t) :=
  ⟨fun pins s σ H Q J h => wpAny_Call_Name_kw (ld_glob J gl at_ (PySem.W.callWith_K (h₀ := X.base) J.ok.mod.kin keep
    (thn (args.run pos pins s σ H _ J h) fun us s1 ⟨_, _, J1, r1, q1⟩ => ⟨J1.kIn, run_g F room gd bn (pass σ) J1 r1 q1⟩) st1 st2) nodb)⟩
end
section
variable {Pr0 : Program} {w : World} {K : PySem.W.Frag} {mg : Str → Option Value} {base : Heap}
/-- a def by its body -/
theorem fn_g {x qual : Str} {st : Stmt} {f : Addr} {fd : FuncData} {N ps : List Str} {k : Nat} {sp : Sp} (F : Fun K x qual st f fd) (sc : FnScope N ps (defScope st)) (len : ∀ vs H Q E, sp vs H Q E → vs.length = ps.length)
    (body : ∀ (cdv : Value) (_ : PySem.W.kdsCode K cdv = true) (A : Around) (out : List PySem.Env) (s : Shared) (H : Hp) (vs : List V) (Q : VK) (E : XK), Room k (A.deeper (envOfC qual (defScope st) s.heap.objs.size f cdv)) → A.guards = some [] → sp vs H Q E →
      ∃ t, PSs (cxOf (L2.CX Pr0 w) Pr0 w K mg base N qual (defScope st) f cdv A out s H E) (defBody st) t ∧ t { nx := fun _ H' => Q .non H', rt := Q } (L2.start N vs) H) :
    FnG Pr0 w K mg base (k + 1) f fd ps sp := by
  obtain ⟨oc, od, kV, doc, pm, an, cdv, ct, osl, rfl, lk, cd⟩ := F.ex
  constructor
  · exact len
  intro A out s H ag us vs Q E room gd e0 bb rv ask
  have many := len _ _ _ _ ask
  have kin : K.In s.heap := e0.mod.kin.keeps fun a o e => (e0.bs a o e).1
  have free : s.heap.NoLimit := e0.mod.nolimit.keeps fun a o e => (e0.bs a o e).1
  have kinds : ∀ y ∈ ps.zip us, (defScope st).names.lookup y.1 = some .local ∨ ((defScope st).names.lookup y.1 = some .cell ∧ ((cellsFrom (s.heap.objs.size + 1) (defScope st).names []).lookup y.1).isSome = true) := by
    rintro ⟨m, v⟩ hy
    exact (sc.par m (List.of_mem_zip hy).1).imp id fun q => ⟨q, PySem.W.cellsFrom_some _ _ _ (.inl q)⟩
  refine codeAny_call_function room.depth (kin _ _ lk) rfl sc.co sc.gen rfl (PySem.W.codeRec_of kin cd) (bb _ _ _ _ (wpAny_newFunctionEnv_cells sc.kind kinds fun env he s1 z => ?_))
  subst he
  obtain ⟨t, ht, ask1⟩ := body cdv (kdsCode_of cd) A out s H vs Q E (room.deeper _) gd ask
  have J0 : Inv (cxOf (L2.CX Pr0 w) Pr0 w K mg base N qual (defScope st) f cdv A out s H E) [] (L2.start N vs) H s1 := inv_start sc room.hd e0 many rv z
  have done : ∀ {σ' : L2.St} {H' : Hp} {v : V} {u : Value} {s' : Shared}, Inv (cxOf (L2.CX Pr0 w) Pr0 w K mg base N qual (defScope st) f cdv A out s H E) [] σ' H' s' → RelV v u → Q v H' → CE out Pr0 w H s Q u s' :=
    fun {_ H' v _ _} J r q => ⟨v, H', J.os, J.bare, J.base, J.hok, r, q⟩
  refine ⟨free.keeps z.toInCall.keep, codeAny_func (wpAny_mono (ht.run [] s1 (L2.start N vs) H _ J0 ask1) (fun fl s' fin => ?_) fun _ _ fin => fin)⟩
  match fl, fin with
  | .ret u, ⟨v, σ', H', J, r, q⟩ => exact done J r q
  | .next, ⟨σ', H', J, q⟩ => exact done (v := V.non) (u := Value.none) J rfl q
  | .brk, ⟨_, _, _, q⟩ => exact q.elim
  | .cont, ⟨_, _, _, q⟩ => exact q.elim
end
end Iv
set_option Elab.async false
set_option linter.all false
set_option maxRecDepth 100000
set_option maxHeartbeats 4000000
/-! Iv4c: dicts with numbers and texts as keys. -/
namespace Iv
open PySem PySem.Spec PyProof.Rows L2
abbrev DKv := List (PyData × PyData)
def keyOf : PyData → Option Key
  | .int i => some (.inl i)
  | .str x => some (.inr x)
  | _ => none
theorem keyOf_keyD (k : Key) : keyOf (keyD k) = some k := by cases k <;> rfl
def lookK (kvs : DKv) (k : Key) : Option PyData := (kvs.find? fun y => decide (keyOf y.1 = some k)).map (·.2)
def putD (kvs : DKv) (k : Key) (v : PyData) : DKv := if (kvs.any fun y => decide (keyOf y.1 = some k)) = true then kvs.map (fun y => if keyOf y.1 = some k then (y.1, v) else y) else kvs ++ [(keyD k, v)]
def mergeD (kvs : DKv) (more : List (Key × PyData)) : DKv := more.foldl (fun acc y => putD acc y.1 y.2) kvs
section
variable {K : PySem.W.Frag} {μ : Mp} {H : Hp}
theorem RPk.look {vs : List (Key × V)} : ∀ {ds : DKv}, RPk K μ H vs ds → ∀ k, (lookK ds k = none ∧ valV vs k = none) ∨ ∃ d v, lookK ds k = some d ∧ valV vs k = some v ∧ RP K μ H v d := by
  intro ds r k
  induction ds generalizing vs with
  | nil => cases r; exact .inl ⟨rfl, rfl⟩
  | cons y ds ih =>
    cases r with
    | cons h t =>
      rename_i k' v vs d
      by_cases e : k' = k
      · subst e
        refine .inr ⟨d, v, ?_, valV_pos rfl, h⟩
        simp [lookK, List.find?_cons, keyOf_keyD]
      · have n1 : ¬ keyOf (keyD k') = some k := by rw [keyOf_keyD]; intro z; exact e (Option.some.inj z)
        rw [valV_neg (show ¬ ((k', v) : Key × V).1 = k from e)]
        have e2 : lookK ((keyD k', d) :: ds) k = lookK ds k := by simp [lookK, List.find?_cons, n1]
        rw [e2]
        exact ih t
theorem RPk.len {vs : List (Key × V)} {ds : DKv} (r : RPk K μ H vs ds) : vs.length = ds.length := by
  induction ds generalizing vs with
  | nil => cases r; rfl
  | cons y ds ih => cases r with | cons h t => simp [ih t]
theorem RPk.app {vs ws : List (Key × V)} {ds es : DKv} (r : RPk K μ H vs ds) (r' : RPk K μ H ws es) : RPk K μ H (vs ++ ws) (ds ++ es) := by
  induction ds generalizing vs with
  | nil => cases r; exact r'
  | cons y ds ih => cases r with | cons h t => exact .cons h (ih t)
theorem RPk.repl {v : V} {d : PyData} (h : RP K μ H v d) (k : Key) {vs : List (Key × V)} {ds : DKv} (r : RPk K μ H vs ds) : RPk K μ H (vs.map fun kv => if kv.1 = k then (kv.1, v) else kv) (ds.map fun y => if keyOf y.1 = some k then (y.1, d) else y) := by
  induction ds generalizing vs with
  | nil => cases r; exact .nil
  | cons y ds ih =>
    cases r with
    | cons h' t =>
      rename_i k' v' vs d'
      rw [List.map_cons, List.map_cons]
      by_cases e : k' = k
      · rw [if_pos e, if_pos (by rw [keyOf_keyD, e])]
        exact .cons h (ih t)
      · rw [if_neg e, if_neg (by rw [keyOf_keyD]; intro z; exact e (Option.some.inj z))]
        exact .cons h' (ih t)
theorem RPk.any {vs : List (Key × V)} {ds : DKv} (r : RPk K μ H vs ds) (k : Key) : (vs.any fun kv => decide (kv.1 = k)) = ds.any fun y => decide (keyOf y.1 = some k) := by
  induction ds generalizing vs with
  | nil => cases r; rfl
  | cons y ds ih =>
    cases r with
    | cons h t =>
      rename_i k' v vs d
      rw [List.any_cons, List.any_cons, ih t]
      congr 1
      rw [keyOf_keyD]
      simp
theorem RPk.put {v : V} {d : PyData} (h : RP K μ H v d) (k : Key) {vs : List (Key × V)} {ds : DKv} (r : RPk K μ H vs ds) : RPk K μ H (putK vs k v) (putD ds k d) := by
  unfold putK putD
  rw [r.any k]
  split
  · exact r.repl h k
  · exact r.app (.cons h .nil)
/-- pairs to be put -/
inductive RKs (K : PySem.W.Frag) (μ : Mp) (H : Hp) : List (Key × V) → List (Key × PyData) → Prop
  | nil : RKs K μ H [] []
  | cons {k : Key} {v : V} {d : PyData} {vs : List (Key × V)} {ds : List (Key × PyData)} : RP K μ H v d → RKs K μ H vs ds → RKs K μ H ((k, v) :: vs) ((k, d) :: ds)
theorem RKs.merge {ms : List (Key × V)} {es : List (Key × PyData)} (r' : RKs K μ H ms es) : ∀ {vs : List (Key × V)} {ds : DKv}, RPk K μ H vs ds → RPk K μ H (mergeK vs ms) (mergeD ds es) := by
  induction r' with
  | nil => exact fun r => r
  | cons h t ih => exact fun r => ih (r.put h _)
theorem RKs.kr {μ' : Mp} {H' : Hp} (s : Kr μ H μ' H') {vs : List (Key × V)} {ds : List (Key × PyData)} (r : RKs K μ H vs ds) : RKs K μ' H' vs ds := by
  induction r with
  | nil => exact .nil
  | cons h t ih => exact .cons (h.kr s) ih
end
def asK (st : Sto) : Vl → Option DKv
  | .d (.dict kvs) => some kvs
  | .ref n => match st[n]? with
    | some (.dct kvs) => some kvs
    | _ => none
  | _ => none
def kyOf : Vl → Option Key
  | .d d => keyOf d
  | _ => none
section
variable {X : Cx}
theorem asK_rd {μ : Mp} {H : Hp} {st : Sto} {v : V} {a : Vl} {kvs : DKv} (S : RSt X.K μ H st) (r : RV X.K X.mg μ H v a) (e : asK st a = some kvs) : ∃ p vs, v = .ref p ∧ Rd H p (.dK vs) ∧ RPk X.K μ H vs kvs := by
  cases a with
  | d x =>
    cases x <;> simp [asK] at e
    subst e
    cases r with | d r => cases r with | dct h n r => exact ⟨_, _, rfl, h, r⟩
  | ref n =>
    cases r with
    | ref r =>
      unfold asK at e
      dsimp only at e
      split at e
      · rename_i ys hy
        cases e
        rcases r with r | r
        · obtain ⟨vs, h1, h2⟩ := S.cell n _ _ r hy
          exact ⟨_, vs, rfl, .inl h1, h2⟩
        · exact (S.cell n _ _ r hy).elim
      · cases e
  | gl x => cases e
  | ty x => cases e
theorem ky_rv {K : PySem.W.Frag} {mg : Str → Option Value} {μ : Mp} {H : Hp} {x : V} {a : Vl} {k : Key} (r : RV K mg μ H x a) (e : kyOf a = some k) : x = kV k := by
  cases a with
  | d d =>
    cases d <;> simp [kyOf, keyOf] at e <;> subst e <;> (cases r with | d r => cases r; rfl)
  | ref n => cases e
  | gl x => cases e
  | ty x => cases e
/-- a[b] of lists, tuples, texts, dicts -/
def pIxA2 : P2 := fun a b st => match asK st a with
  | some kvs => (kyOf b).bind fun k => (lookK kvs k).map fun d => (.d d, st)
  | none => pIx2 a b st
theorem rx_all (hu : X.A.units + 66 < cLine) : IxR X (rP X pIxA2) := by
  intro value slice pins s σ H x y v u Q I rx ry ⟨μ, st, a, b, r, ra, rb, S, e, q⟩ hs
  unfold pIxA2 at e
  cases e1 : asK st a with
  | none => rw [e1] at e; exact rx_ok value slice pins s σ H x y v u Q I rx ry ⟨μ, st, a, b, r, ra, rb, S, e, q⟩ hs
  | some kvs =>
    rw [e1] at e
    dsimp only at e
    cases e2 : kyOf b with
    | none => rw [e2] at e; cases e
    | some k =>
      rw [e2, Option.bind_some] at e
      obtain ⟨p, vs, rfl, h, rk⟩ := asK_rd S ra e1
      rcases rk.look k with ⟨n1, _⟩ | ⟨d, w, l1, l2, l3⟩
      · rw [n1] at e; cases e
      · rw [l1] at e
        cases e
        have ey := ky_rv rb e2
        have g : DGet H p y (some w) := .inl ⟨vs, k, h, ey, l2.symm⟩
        obtain rfl : v = Value.ref p := rx
        exact tail_any (dict_typeIs I g) slot_dict_getitem.lookup (d_getItem (by omega) I g ry fun w' s3 I3 rw' => ⟨w, H, I3, rw', q w H μ (Grow.refl _ _) S (.d l3)⟩) hs
def pInA2 (neg : Bool) : P2 := fun a b st => match asK st b with
  | some kvs => (kyOf a).map fun k => (.d (.bool (neg ^^ (lookK kvs k).isSome)), st)
  | none => pIn2 neg a b st
theorem op_ind (hu : X.A.units + 66 < cLine) : OpR X (compareOp .In) (fun x y H Q => ∃ a o, y = .ref a ∧ DGet H a x o ∧ Q (.bl (false ^^ o.isSome)) H) := by
  intro pins s σ H x y v u Q I rx ry ⟨a, o, ey, g, q⟩
  subst ey
  obtain rfl : u = Value.ref a := ry
  exact d_in (by omega) I g rx fun s3 I3 => ⟨.bl o.isSome, H, I3, rfl, by simpa using q⟩
theorem op_notind (hu : X.A.units + 66 < cLine) : OpR X (compareOp .NotIn) (fun x y H Q => ∃ a o, y = .ref a ∧ DGet H a x o ∧ Q (.bl (true ^^ o.isSome)) H) := by
  intro pins s σ H x y v u Q I rx ry ⟨a, o, ey, g, q⟩
  subst ey
  obtain rfl : u = Value.ref a := ry
  exact d_notIn (by omega) I g rx fun s3 I3 => ⟨.bl (!o.isSome), H, I3, rfl, by simpa using q⟩
theorem inA_core {neg : Bool} {op : CmpOp} (h1 : PrOk X (f2 (compareOp op)) (pIn neg)) (h2 : OpR X (compareOp op) (fun x y H Q => ∃ a o, y = .ref a ∧ DGet H a x o ∧ Q (.bl (neg ^^ o.isSome)) H)) : PrOk X (f2 (compareOp op)) (l2 (pInA2 neg)) := by
  intro pins s σ H vs us μ st as res I rv ras S e
  obtain ⟨a, b, rfl⟩ := l2_of e
  replace e : pInA2 neg a b st = some res := e
  unfold pInA2 at e
  cases e1 : asK st b with
  | none => rw [e1] at e; exact h1 pins s σ H vs us μ st [a, b] res I rv ras S e
  | some kvs =>
    rw [e1] at e
    refine pr_op (p := fun a b st => (asK st b).bind fun kvs => (kyOf a).map fun k => (.d (.bool (neg ^^ (lookK kvs k).isSome)), st)) h2 (fun H x y μ st a b res ra rb S e => ?_) pins s σ H vs us μ st [a, b] res I rv ras S (by show (asK st b).bind _ = _; rw [e1]; exact e)
    cases e1 : asK st b with
    | none => rw [e1] at e; cases e
    | some kvs =>
      rw [e1, Option.bind_some] at e
      cases e2 : kyOf a with
      | none => rw [e2] at e; cases e
      | some k =>
        rw [e2] at e
        cases e
        obtain ⟨p, vs, rfl, h, rk⟩ := asK_rd S rb e1
        refine ⟨p, valV vs k, rfl, .inl ⟨vs, k, h, ky_rv ra e2, rfl⟩, ?_⟩
        have : (valV vs k).isSome = (lookK kvs k).isSome := by rcases rk.look k with ⟨n1, n2⟩ | ⟨d, w, l1, l2, l3⟩ <;> simp [*]
        rw [this]
        exact stayV S (.d (.bl _))
theorem ok_inA (hu : X.A.units + 66 < cLine) : PrOk X (f2 (compareOp .In)) (l2 (pInA2 false)) := inA_core (ok_in hu) (op_ind hu)
theorem ok_notinA (hu : X.A.units + 66 < cLine) : PrOk X (f2 (compareOp .NotIn)) (l2 (pInA2 true)) := inA_core (ok_notin hu) (op_notind hu)
def pLenA1 : P1 := fun a st => match asK st a with
  | some kvs => some (.d (.int kvs.length), st)
  | none => pLen1 a st
theorem ok_lenA : PrOk X (fun us => call (.builtin "len") us) (l1 pLenA1) := by
  intro pins s σ H vs us μ st as res I rv ras S e
  obtain ⟨a, rfl⟩ := l1_of e
  replace e : pLenA1 a st = some res := e
  unfold pLenA1 at e
  cases e1 : asK st a with
  | none => rw [e1] at e; exact ok_len pins s σ H vs us μ st [a] res I rv ras S e
  | some kvs =>
    rw [e1] at e
    cases e
    obtain ⟨x, rfl, ra⟩ := ras.one
    obtain ⟨u, rfl, ru⟩ := Vals.one rv
    obtain ⟨p, vs, rfl, h, rk⟩ := asK_rd S ra e1
    cases ru
    exact d_len I h fun t s' I' => EPr.of ⟨.int vs.length, H, I', ⟨t, rfl⟩, by rw [rk.len]; exact stayV S (.d (.int _))⟩
theorem newD {μ : Mp} {H : Hp} {st : Sto} {vs : List (Key × V)} {ds : DKv} {p : Addr} (S : RSt X.K μ H st) (r : RPk X.K μ H vs ds) (e : H p = none) :
    ∃ μ', Grow μ H μ' (upd H p (.dK vs)) ∧ RSt X.K μ' (upd H p (.dK vs)) st ∧ RV X.K X.mg μ' (upd H p (.dK vs)) (.ref p) (.d (.dict ds)) :=
  ⟨μ, Grow.new S e, S.new e, .d (.dct (.inl upd_same) (S.fresh e) (r.step (Grow.new S e)))⟩
/-- dict(xs) of pairs -/
def pairsD : List PyData → Option (List (Key × PyData))
  | [] => some []
  | .tuple [k, v] :: r => (keyOf k).bind fun k => (pairsD r).map ((k, v) :: ·)
  | _ => none
def pDict1 : P1 := fun a st => (asL st a).bind fun xs => (pairsD xs).map fun ps => (.d (.dict (mergeD [] ps)), st)
theorem pairs_rp {K : PySem.W.Frag} {μ : Mp} {H : Hp} : ∀ {ds : List PyData} {vs : List V} {ps : List (Key × PyData)}, RPs K μ H vs ds → pairsD ds = some ps →
    ∃ (as : List Addr) (kvs : List (Key × V)), vs = as.map V.ref ∧ Paired (fun p kv => SqT K H p [kV kv.1, kv.2]) as kvs ∧ RKs K μ H kvs ps
  | [], _, _, r, e => by cases r; cases e; exact ⟨[], [], rfl, .nil, .nil⟩
  | d :: ds, _, ps, r, e => by
    cases r with
    | cons h t =>
      unfold pairsD at e
      split at e
      · cases ‹_ :: _ = []›
      · rename_i k v r' heq
        cases heq
        cases e2 : keyOf k with
        | none => rw [e2] at e; cases e
        | some k' =>
          rw [e2, Option.bind_some] at e
          obtain ⟨ps', e3, rfl⟩ := Option.map_eq_some_iff.mp e
          obtain ⟨as, kvs, e4, e5, e6⟩ := pairs_rp t e3
          cases h with
          | tup h1 h2 =>
            cases h2 with
            | cons q1 q2 =>
              cases q2 with
              | cons q2 q3 =>
                cases q3
                rename_i a x y
                have ex : x = kV k' := ky_rv (mg := fun _ => none) (.d q1) e2
                subst ex
                exact ⟨a :: as, (k', y) :: kvs, by rw [e4]; rfl, .cons h1.sq e5, .cons q2 e6⟩
      · cases e
theorem ok_dict (hc : X.calm = true) : PrOk X (fun us => call (.type "dict") us) (l1 pDict1) := by
  refine pr_call (call_dictP hc) fun H xs μ st as res ras S e => ?_
  obtain ⟨a, rfl⟩ := l1_of e
  obtain ⟨x, rfl, ra⟩ := ras.one
  replace e : pDict1 a st = some res := e
  unfold pDict1 at e
  cases e1 : asL st a with
  | none => rw [e1] at e; cases e
  | some ds =>
    rw [e1, Option.bind_some] at e
    obtain ⟨ps, e2, rfl⟩ := Option.map_eq_some_iff.mp e
    obtain ⟨p, vs, rfl, hp, r1⟩ := asL_rd S ra e1
    obtain ⟨as, kvs, rfl, h3, h4⟩ := pairs_rp r1 e2
    exact ⟨p, as, kvs, rfl, hp, h3, fun l hl => newD S (h4.merge .nil) hl⟩
end
end Iv
set_option Elab.async false
set_option linter.all false
set_option maxRecDepth 100000
set_option maxHeartbeats 4000000
/-! Iv4d: sorted(list). -/
namespace Iv
open PySem PySem.Spec PyProof.Rows L2
def allAlikeB (ds : List PyData) : Bool := ds.all fun d => ds.all fun e => PySem.W.alike d e
def isTupD : PyData → Bool
  | .tuple (_ :: _) => true
  | _ => false
def plainD : PyData → Bool
  | .none => false
  | .tuple _ => false
  | _ => true
def sortOk (ds : List PyData) : Bool := allAlikeB ds && ((ds.all isTupD || ds.all plainD) && (decide (ds.length ≤ sizeLine) && ds.all fun d => d.canLay0 && decide (d.depth ≤ 64)))
def sortD (ds : List PyData) : List PyData := ds.mergeSort (PySem.W.dataLe false fun d : PyData => d)
def pSorted1 : P1 := fun a st => (asL st a).bind fun xs => if sortOk xs = true then some (.d (.list (sortD xs)), st) else none
def pSortedC1 : P1 := fun a st => (asL st a).bind fun xs => if sortOk xs = true then some (.ref st.length, st ++ [.lst (sortD xs)]) else none
theorem sortOk_parts {ds : List PyData} (h : sortOk ds = true) : PySem.W.AllAlike (ds.map fun d : PyData => d) ∧ PySem.W.Sortable (ds.map fun d : PyData => d) ∧ ds.length ≤ sizeLine ∧ (∀ d ∈ ds, d.canLay0 = true ∧ d.depth ≤ 64) := by
  unfold sortOk at h
  simp only [Bool.and_eq_true, Bool.or_eq_true, decide_eq_true_eq, List.all_eq_true] at h
  obtain ⟨h1, h2, h3, h4⟩ := h
  have hid : ds.map (fun d : PyData => d) = ds := List.map_id' ds
  rw [hid]
  refine ⟨fun d hd e he => ?_, ?_, h3, fun d hd => h4 d hd⟩
  · unfold allAlikeB at h1
    exact List.all_eq_true.mp (List.all_eq_true.mp h1 d hd) e he
  · rcases h2 with h2 | h2
    · refine .inl fun d hd => ?_
      have := h2 d hd
      unfold isTupD at this
      split at this
      · exact ⟨_, _, rfl⟩
      · cases this
    · refine .inr fun d hd => ?_
      have := h2 d hd
      refine ⟨fun e => ?_, fun xs e => ?_⟩ <;> (subst e; cases this)
section
variable {X : Cx}
theorem each_back {K : PySem.W.Frag} {μ : Mp} {H : Hp} : ∀ {us : List Value} {ds : List PyData}, PySem.W.EachIs (fun v d => ∃ x : V, RelV x v ∧ RP K μ H x d) us ds → ∃ vs, Vals vs us ∧ RPs K μ H vs ds
  | _, _, .nil => ⟨[], .nil, .nil⟩
  | _, _, .cons ⟨x, h1, h2⟩ t => by
    obtain ⟨vs, h3, h4⟩ := each_back t
    exact ⟨x :: vs, .cons h1 h3, .cons h2 h4⟩
theorem each_to {K : PySem.W.Frag} {μ : Mp} {H : Hp} : ∀ {us : List Value} {vs : List V} {ds : List PyData}, Vals vs us → RPs K μ H vs ds → PySem.W.EachIs (fun v d => ∃ x : V, RelV x v ∧ RP K μ H x d) us ds
  | _, _, _, .nil, .nil => .nil
  | _, _, _, .cons h1 t1, .cons h2 t2 => .cons ⟨_, h1, h2⟩ (each_to t1 t2)
theorem each_reads {pins : List (Addr × Obj)} {σ : L2.St} {s : Shared} {μ : Mp} {H : Hp} (I : Inv X pins σ H s) : ∀ {us : List Value} {vs : List V} {ds : List PyData}, (∀ d ∈ ds, d.canLay0 = true) → Vals vs us → RPs X.K μ H vs ds → PySem.W.EachIs (fun v d => ∃ as, Reads s.heap v d as) us ds
  | _, _, _, _, .nil, .nil => .nil
  | _, _, _, c, .cons h1 t1, .cons h2 t2 => .cons (Dp.reads I _ _ _ (RP.dp (c _ List.mem_cons_self) h2) h1) (each_reads I (fun d hd => c d (List.mem_cons_of_mem _ hd)) t1 t2)
theorem sorted_core (hu : X.A.units + 66 < cLine) {pins : List (Addr × Obj)} {s : Shared} {σ : L2.St} {H : Hp} {μ : Mp} {st : Sto} {v : V} {u : Value} {a : Vl} {xs : List PyData} {res : Vl × Sto} (I : Inv X pins σ H s) (rv : RelV v u) (ra : RV X.K X.mg μ H v a) (S : RSt X.K μ H st) (e : asL st a = some xs) (ok : sortOk xs = true)
    (fin : ∀ (p : Addr) (ws : List V), H p = none → RPs X.K μ H ws (sortD xs) → ∃ μ', Grow μ H μ' (upd H p (.lst ws)) ∧ RSt X.K μ' (upd H p (.lst ws)) res.2 ∧ RV X.K X.mg μ' (upd H p (.lst ws)) (.ref p) res.1) : wpAny (model X.prog X.w) X.A (call (.builtin "sorted") [u]) (EPr X pins σ μ H res) X.xe s := by
  obtain ⟨p1, p2, p3, p4⟩ := sortOk_parts ok
  obtain ⟨p, vs, rfl, hp, r1⟩ := asL_rd S ra e
  cases rv
  obtain ⟨its, rvs, pl, hz⟩ := I.list hp
  refine PySem.W.sorted_data (enc := fun d : PyData => d) pl.isList (each_to rvs r1) (each_reads I (fun d hd => (p4 d hd).1) rvs r1) p1 p2 p3 (fun d hd => by have := (p4 d hd).2; omega) fun out ho eo => ?_
  obtain ⟨ws, h3, h4⟩ := each_back eo
  obtain ⟨c, hc⟩ := PyProof.Rows.sortedAll_at s.heap its out.toArray
  have hn : H (s.heap.objs.size + 1) = none := I.hok.fresh (Nat.le_succ _)
  obtain ⟨μ', g, S', r'⟩ := fin _ ws hn h4
  have hl : ws.length ≤ sizeLine := by rw [h4.length, List.length_mergeSort]; exact p3
  refine EPr.of ⟨.ref (s.heap.objs.size + 1), upd H (s.heap.objs.size + 1) (.lst ws), I.laid (t' := s.toks) (fun _ _ => PyProof.Rows.sortedAll_old) (Nat.le_succ _) ⟨hl, out, c, h3, ?_⟩, rfl, μ', g, S', r'⟩
  simpa using hc
theorem ok_sorted (hu : X.A.units + 66 < cLine) : PrOk X (fun us => call (.builtin "sorted") us) (l1 pSorted1) := by
  intro pins s σ H vs us μ st as res I rv ras S e
  obtain ⟨a, rfl⟩ := l1_of e
  obtain ⟨x, rfl, ra⟩ := ras.one
  obtain ⟨u, rfl, ru⟩ := Vals.one rv
  replace e : pSorted1 a st = some res := e
  unfold pSorted1 at e
  obtain ⟨xs, e1, e⟩ := Option.bind_eq_some_iff.mp e
  split at e
  · rename_i ok
    cases e
    exact sorted_core hu I ru ra S e1 ok fun p ws hp r => newL S r hp
  · cases e
end
end Iv
set_option Elab.async false
set_option linter.all false
set_option maxRecDepth 100000
set_option maxHeartbeats 4000000
/-! Iv4e: a list, so many times. -/
namespace Iv
open PySem PySem.Spec PyProof.Rows L2
theorem list_mulW (l : Addr) (items : Array Value) (n : Nat) (dd : Option Addr) (sl : Array (Option Value)) (x : Int) (u : Tok) (hc0 : ¬(!Builtin.List.listFitsIndex x) = true) (hc1 : ¬items.size * x.toNat > (2 ^ 63 - 1) / 8) (hc2 : ¬Builtin.List.listTooLong (items.size * x.toNat) = true) :
    Meets (Builtin.«list.__mul__» ⟨[.ref l, .int x u], []⟩) (fun _ R s => s.heap.get? l = some { cls := .type "list", dict := dd, data := .seq items n, slots := sl } ∧
      R (.ok (.ret (Value.ref s.heap.objs.size))) { s with heap := s.heap.push { cls := .type "list", data := .seq (List.foldl (fun a b => a ++ b) #[] (List.replicate (if items.isEmpty = true then 0 else x.toNat) items)) } }) :=
  .of_wp fun prog w A R s h => by
    obtain ⟨hp, g, d, tk, os⟩ := s; obtain ⟨hl, h⟩ := h
    have fits := AutoListH.joined_fits hc2
    wp_walk
    refine wpAny_ite_false (decide_eq_false (Nat.not_lt.mpr fits)) ?_
    wp_walk
    exact ⟨_, rfl, h⟩
theorem int_rmulW (a : Int) (t : Tok) (l : Addr) (items : Array Value) (n : Nat) (dd : Option Addr) (sl : Array (Option Value)) :
    Meets (Builtin.«int.__rmul__» ⟨[.int a t, .ref l], []⟩) (fun _ R s => s.heap.get? l = some { cls := .type "list", dict := dd, data := .seq items n, slots := sl } ∧ R (.ok (.ret Value.notImplemented)) s) :=
  .of_wp fun prog w A R s h => by
    obtain ⟨hp, g, d, tk, os⟩ := s
    obtain ⟨hl, h⟩ := h
    wp_walk
    exact ⟨_, rfl, h⟩
def repD (xs : List PyData) (k : Nat) : List PyData := (List.replicate k xs).flatten
def pMulA2 : P2
  | .d (.int i), .d (.int j) => fun st => if mulOk i j = true then some (.d (.int (i * j)), st) else none
  | a, .d (.int k) => fun st => (asL st a).bind fun xs => if -(2 ^ 63) ≤ k ∧ k < 2 ^ 63 ∧ xs.length * k.toNat ≤ sizeLine then some (.d (.list (repD xs k.toNat)), st) else none
  | _, _ => fun _ => none
section
variable {X : Cx}
def rRepW (K : PySem.W.Frag) : R2 := fun x y H Q => ∃ l k xs, x = .ref l ∧ y = .int k ∧ SqL K H l xs ∧ -(2 ^ 63) ≤ k ∧ k < 2 ^ 63 ∧ xs.length * k.toNat ≤ sizeLine ∧ ∀ p, H p = none → Q (.ref p) (upd H p (.lst (List.replicate k.toNat xs).flatten))
theorem op_repW : OpR X (binaryOp .Mult) (rRepW X.K) := by
  intro pins s σ H x y v u Q I rx ry h
  obtain ⟨l, k, xs, rfl, rfl, hq, k1, k2, hz, q⟩ := h
  cases rx
  obtain ⟨t, rfl⟩ := ry
  obtain ⟨its, r, p, _⟩ := I.list hq
  have hl := r.length
  obtain ⟨⟨cls, dd, data, sl⟩, ho, hc, n, hd⟩ := p.isList
  simp only at hc hd
  subst hc hd
  have long : its.toArray.size * k.toNat ≤ sizeLine := by rw [List.size_toArray, ← hl]; exact hz
  have cap : ¬ its.toArray.size * k.toNat > (2 ^ 63 - 1) / 8 := by
    have : (sizeLine : Nat) ≤ (2 ^ 63 - 1) / 8 := by decide
    omega
  have fit : ¬ (!Builtin.List.listFitsIndex k) = true := by rw [fitsIndex_both k1 k2]; exact Bool.false_ne_true
  have notLong : ¬ Builtin.List.listTooLong (its.toArray.size * k.toNat) = true := by rw [notLongL long]; exact Bool.false_ne_true
  have made : List.foldl (fun a b => a ++ b) #[] (List.replicate (if its.toArray.isEmpty = true then 0 else k.toNat) its.toArray) = (List.replicate k.toNat its).flatten.toArray := by
    have f0 : ∀ m : Nat, List.foldl (fun a b => a ++ b) #[] (List.replicate m its.toArray) = (List.replicate m its).flatten.toArray := fun m => by
      have z := foldl_rep its m []
      rwa [List.nil_append] at z
    rw [f0]
    cases its with
    | nil => simp
    | cons _ _ => rw [if_neg (by simp)]
  refine wpAny_binaryOp_repeat_ref (T := "list") (U := "int") (by decide) ⟨_, ho, rfl⟩ (fun s' => typeIs_int s' k t) noFill_list_mul F.fills_int_mul F.slot_int_rmul repeat_list F.slot_int_index.lookup
    (call_meets F.slot_int_rmul (typeIs_int s k t) F.entry_int_rmul (F.args_int_rmul_2 _ _) (int_rmulW k t l its.toArray n dd sl)
      ⟨ho, rfl, ⟨_, ho, rfl⟩, call_meets F.slot_list_mul ⟨_, ho, rfl⟩ F.entry_list_mul (F.args_list_mul_2 _ _) (list_mulW l its.toArray n dd sl k t fit cap notLong) ⟨ho, ?_⟩⟩)
  rw [made]
  exact ⟨.ref _, _, I.lnew (t' := s.toks) (r.rep k.toNat) (by rw [PyProof.Rows.lm_len_rep_flat, Nat.mul_comm]; exact hz), rfl, q _ I.fresh⟩
theorem RPs.rep {K : PySem.W.Frag} {μ : Mp} {H : Hp} {vs : List V} {ds : List PyData} (r : RPs K μ H vs ds) : ∀ k, RPs K μ H (List.replicate k vs).flatten (repD ds k)
  | 0 => .nil
  | k + 1 => by
    unfold repD
    rw [List.replicate_succ, List.replicate_succ, List.flatten_cons, List.flatten_cons]
    exact r.append (RPs.rep r k)
theorem ok_mulA : PrOk X (f2 (binaryOp .Mult)) (l2 pMulA2) := by
  intro pins s σ H vs us μ st as res I rv ras S e
  obtain ⟨a, b, rfl⟩ := l2_of e
  replace e : pMulA2 a b st = some res := e
  unfold pMulA2 at e
  split at e
  · exact ok_mul pins s σ H vs us μ st _ res I rv ras S (by exact e)
  · rename_i k _
    obtain ⟨xs, e1, e2⟩ := Option.bind_eq_some_iff.mp e
    refine pr_op (p := fun a b st => match b with
      | .d (.int k) => (asL st a).bind fun xs => if -(2 ^ 63) ≤ k ∧ k < 2 ^ 63 ∧ xs.length * k.toNat ≤ sizeLine then some (.d (.list (repD xs k.toNat)), st) else none
      | _ => none) op_repW (fun H x y μ st a b res ra rb S e => ?_) pins s σ H vs us μ st _ res I rv ras S (by exact e)
    split at e
    · rename_i k
      obtain ⟨xs, e1, e2⟩ := Option.bind_eq_some_iff.mp e
      split at e2
      · rename_i hk
        cases e2
        obtain ⟨p, vs, rfl, hp, r1⟩ := asL_rd S ra e1
        cases rb with | d rb => cases rb; exact ⟨p, k, vs, rfl, rfl, hp, hk.1, hk.2.1, by rw [r1.length]; exact hk.2.2, fun q hq => newL S (r1.rep _) hq⟩
      · cases e2
    · cases e
  · cases e
end
end Iv
set_option Elab.async false
set_option linter.all false
set_option maxRecDepth 100000
set_option maxHeartbeats 4000000
/-! Iv5: results put one behind another; the readings of expressions, tests, lists of expressions; contexts. -/
namespace Iv
open PySem PySem.Spec PyProof.Rows L2

section
variable {K : PySem.W.Frag} {mg : Str → Option Value} {α β γ : Type}
abbrev Rl (β α : Type) := Mp → Hp → β → α → Prop
variable {R : Rl β α} {μ μ1 : Mp} {H H1 : Hp} {Q : β → Hp → Prop} {E : XK} {r : Rs α}
theorem Post.from_ (g : Grow μ H μ1 H1) (h : Post K mg R μ H Q E r) : Post K mg R μ1 H1 Q E r := by
  cases r with
  | ok a st' => exact fun v H' μ' g' S w => h v H' μ' (g.trans g') S w
  | ex e st' => exact fun c d H' μ' g' S w => h c d H' μ' (g.trans g') S w
  | bad => exact h
theorem Post.mono {Q' : β → Hp → Prop} (h : Post K mg R μ H Q E r) (q : ∀ v H' a st' μ', r = .ok a st' → Grow μ H μ' H' → RSt K μ' H' st' → R μ' H' v a → Q v H' → Q' v H') : Post K mg R μ H Q' E r := by
  cases r with
  | ok a st' => exact fun v H' μ' g' S w => q v H' a st' μ' rfl g' S w (h v H' μ' g' S w)
  | ex e st' => exact h
  | bad => exact h
theorem Post.bind {δ : Type} {R2 : Rl δ γ} {Q : δ → Hp → Prop} {m : M α} {f : α → M γ} {st : Sto} (h : Post K mg R2 μ H Q E (M.bind m f st)) :
    Post K mg R μ H (fun v H1 => ∃ a st1 μ1, Grow μ H μ1 H1 ∧ RSt K μ1 H1 st1 ∧ R μ1 H1 v a ∧ Post K mg R2 μ1 H1 Q E (f a st1)) E (m st) := by
  unfold M.bind at h
  cases e : m st with
  | ok a st' =>
    rw [e] at h
    exact fun v H' μ' g' S w => ⟨a, st', μ', g', S, w, h.from_ g'⟩
  | ex x st' => rw [e] at h; exact h
  | bad => rw [e] at h; exact h
end

def liftP (p : Pr) (as : List Vl) : M Vl := fun st => match p as st with
  | some (v, st') => .ok v st'
  | none => .bad
def lift2 (p : P2) (a b : Vl) : M Vl := fun st => match p a b st with
  | some (v, st') => .ok v st'
  | none => .bad
def lift1 (p : P1) (a : Vl) : M Vl := fun st => match p a st with
  | some (v, st') => .ok v st'
  | none => .bad

/-- a def's parameters: how many by place, the keyword-only ones with their defaults, the keywords by which it is called -/
structure FI where
  n : Nat
  kw : List (Str × Option PyData) := []
  sh : List (List Str) := [[]]
/-- what a dict of the module holds -/
inductive DV where
  | d (x : PyData)
  | fn (x : Str)
def DV.vl : DV → Vl
  | .d x => .d x
  | .fn x => .gl x
inductive GVal where
  | fn (i : FI)
  | cst (d : PyData)
  | cls
  | dct (kvs : List (Str × DV))

/-- what is known of where one stands -/
structure SC where
  N : List Str
  names : List (Str × NameKind)
  glob : Str → Option GVal
  call : Str → List Vl → M Vl
  calm : Bool
  so : Bool
  sn : List Str := []
  dn : List Str := []

/-- the builtins whose names no module of ours binds -/
abbrev bltNames : List Str := ["len", "abs", "int", "max", "min", "all", "any", "sum", "list", "tuple", "range", "enumerate", "zip", "sorted", "repr", "isinstance", "str", "bool", "dict", "set", "reversed",
  "ValueError", "LookupError", "Exception", "IndexError", "KeyError", "TypeError"]

/-- only of so many arguments -/
def guardN (n : Nat) (c : List Vl → M Vl) : List Vl → M Vl := fun as => if as.length = n then c as else nope
/-- the promise of a def that computes c -/
def spI (K : PySem.W.Frag) (mg : Str → Option Value) (c : List Vl → M Vl) (n : Nat) : Sp := fun vs H Q E =>
  ∃ (μ : Mp) (st : Sto) (as : List Vl), RVs K mg μ H vs as ∧ RSt K μ H st ∧ Post K mg (RV K mg) μ H Q E (guardN n c as st)

def pick {α : Type} (ix : List Nat) (l : List α) : List α := ix.filterMap (l[·]?)
/-- the keyword-only parameters, in order: the keywords that are given (by their places), what lacks behind them -/
def selIx (ks : List Str) : List (Str × Option PyData) → Nat → List Nat
  | [], _ => []
  | y :: r, m => if y.1 ∈ ks then ks.idxOf y.1 :: selIx ks r m else (ks.length + m) :: selIx ks r (m + 1)
def missK (ks : List Str) (kw : List (Str × Option PyData)) : List (Str × PyData) := (kw.filter fun y => !(ks.contains y.1)).map fun y => (y.1, y.2.getD .none)
/-- how a call by these keywords binds -/
def BindsK (K : PySem.W.Frag) (fd : FuncData) (ps : List Str) (i : FI) (ks : List Str) : Prop :=
  ∃ (mv : List Value) (vs : List V), Vals vs mv ∧ (∀ μ H, RPs K μ H vs ((missK ks i.kw).map (·.2))) ∧
    ∀ (s : Shared) (us ws : List Value), K.In s.heap → us.length = i.n → ws.length = ks.length → BindsTo s fd ⟨us, ks.zip ws⟩ (ps.zip (us ++ pick (selIx ks i.kw 0) (ws ++ mv)))
structure Ok (G : SC) (W : WX) (X : Cx) : Prop where
  N : X.N = G.N
  nd : X.N.Nodup
  vis : ∀ x k, G.names.lookup x = some k → (k = .local ∨ k = .cell ∨ k = .free) → Vis X.env.scope x
  loc : ∀ x k, G.names.lookup x = some k → (k = .local ∨ k = .cell) → Loc X.env.scope x ∧ (X.fn x = true ∨ X.env.scope.names.lookup x = some .local)
  lol : ∀ x, G.names.lookup x = some .local → X.env.scope.names.lookup x = some .local
  cf : ∀ x k, G.names.lookup x = some k → (k = .cell ∨ k = .free) → X.env.scope.names.lookup x = some .cell ∨ X.env.scope.names.lookup x = some .free
  gl : ∀ x, G.names.lookup x = some .globalImplicit → Gl X x
  calm : G.calm = true → X.calm = true
  so : G.so = X.w.params.followText "set-order"
  code : PySem.W.kdsCode X.K X.env.code = true
  units : X.A.units + 66 < cLine
  gd : X.A.guards = some []
  tk : Takes X W
  cst : ∀ x d, G.glob x = some (.cst d) → ∃ u v, X.mg x = some u ∧ RelV v u ∧ ∀ μ H, RP X.K μ H v d
  fn : ∀ x n, G.glob x = some (.fn n) → ∃ a, X.mg x = some (.ref a)
  dc : ∀ x kvs, G.glob x = some (.dct kvs) → ∃ (d : Addr) (es : Array DictEntry) (n : Nat), X.mg x = some (.ref d) ∧ KDict X.K X.w d es n ∧
    (∀ z dv, kvs.lookup z = some dv → ∃ u v, PySem.W.nsIn X.K d z = some (some u) ∧ RelV v u ∧ ∀ μ H, RV X.K X.mg μ H v dv.vl) ∧ (∀ z, kvs.lookup z = none → PySem.W.nsIn X.K d z = some none) ∧ es.toList.map He.keyOf = He.keysIn X.w.params (kvs.map (·.1))
  cl : ∀ x, G.glob x = some .cls → ∃ a, X.mg x = some (.ref a)
  blt : ∀ x, G.glob x = none → x ∈ bltNames → X.mg x = none
  fns : G.calm = true → ∀ x i, G.glob x = some (.fn i) → ∃ (f : Addr) (fd : FuncData) (ps : List Str) (k : Nat), ps.length = i.n + i.kw.length ∧ X.mg x = some (.ref f) ∧ PySem.W.keepIn X.K (.ref f) = true ∧ (∀ ks ∈ i.sh, BindsK X.K fd ps i ks) ∧ Room k X.A ∧
    FnG X.prog X.w X.K X.mg X.base k f fd ps (spI X.K X.mg (G.call x) (i.n + i.kw.length))

section
variable {X : Cx} {W : WX}
def gE (X : Cx) (W : WX) (m : Env → M Vl) : TE := fun σ H Q => ∃ (μ : Mp) (ρ : Env) (st : Sto), RE X.K X.mg μ H σ ρ ∧ RSt X.K μ H st ∧ Post X.K X.mg (RV X.K X.mg) μ H Q (fun cls d H' => W cls d σ H') (m ρ st)
def RBo : Rl Bool Bool := fun _ _ v a => v = a
def gT (X : Cx) (W : WX) (m : Env → M Bool) : TT := fun σ H Q => ∃ (μ : Mp) (ρ : Env) (st : Sto), RE X.K X.mg μ H σ ρ ∧ RSt X.K μ H st ∧ Post X.K X.mg RBo μ H Q (fun cls d H' => W cls d σ H') (m ρ st)
def gA (X : Cx) (W : WX) (m : Env → M (List Vl)) : TA := fun σ H Q => ∃ (μ : Mp) (ρ : Env) (st : Sto), RE X.K X.mg μ H σ ρ ∧ RSt X.K μ H st ∧ Post X.K X.mg (RVs X.K X.mg) μ H Q (fun cls d H' => W cls d σ H') (m ρ st)

theorem _root_.L2.PE.weak {e : Expr} {t t' : TE} (h : PE X e t) (w : ∀ σ H Q, t' σ H Q → t σ H Q) : PE X e t' := ⟨fun pins s σ H Q I q => h.run pins s σ H Q I (w σ H Q q)⟩
theorem _root_.L2.PT.weak {e : Expr} {t t' : TT} (h : PT X e t) (w : ∀ σ H Q, t' σ H Q → t σ H Q) : PT X e t' := ⟨fun pins s σ H Q I q => h.run pins s σ H Q I (w σ H Q q)⟩
theorem _root_.L2.PW.weak {e : Expr} {t t' : TT} (h : PW X e t) (w : ∀ σ H Q, t' σ H Q → t σ H Q) : PW X e t' := ⟨fun whole pins s σ H Q I q => h.run whole pins s σ H Q I (w σ H Q q)⟩
theorem _root_.L2.PA.weak {e : List Expr} {t t' : TA} (h : PA X e t) (w : ∀ σ H Q, t' σ H Q → t σ H Q) : PA X e t' := ⟨fun pos pins s σ H Q I q => h.run pos pins s σ H Q I (w σ H Q q)⟩
theorem _root_.L2.PK.weak {e : List Keyword} {t t' : TA} (h : PK X e t) (w : ∀ σ H Q, t' σ H Q → t σ H Q) : PK X e t' := ⟨fun pos pins s σ H Q I q => h.run pos pins s σ H Q I (w σ H Q q)⟩
theorem _root_.L2.PS.weak {e : Stmt} {t t' : TS} (h : PS X e t) (w : ∀ D σ H, t' D σ H → t D σ H) : PS X e t' := ⟨fun pins s σ H D I q => h.run pins s σ H D I (w D σ H q)⟩
theorem _root_.L2.PSs.weak {e : List Stmt} {t t' : TS} (h : PSs X e t) (w : ∀ D σ H, t' D σ H → t D σ H) : PSs X e t' := ⟨fun pins s σ H D I q => h.run pins s σ H D I (w D σ H q)⟩

/-- one term, then another -/
theorem gE.then {β γ δ : Type} {R2 : Rl δ γ} {Q : δ → Hp → Prop} {σ : L2.St} {H : Hp} {μ : Mp} {ρ : Env} {st : Sto} {m : Env → M Vl} {f : Vl → M γ} {Q1 : VK}
    (re : RE X.K X.mg μ H σ ρ) (S : RSt X.K μ H st) (h : Post X.K X.mg R2 μ H Q (fun cls d H' => W cls d σ H') (M.bind (m ρ) f st))
    (k : ∀ v H1 a st1 μ1, RE X.K X.mg μ1 H1 σ ρ → RSt X.K μ1 H1 st1 → RV X.K X.mg μ1 H1 v a → Grow μ H μ1 H1 → Post X.K X.mg R2 μ1 H1 Q (fun cls d H' => W cls d σ H') (f a st1) → Q1 v H1) : gE X W m σ H Q1 :=
  ⟨μ, ρ, st, re, S, h.bind.mono fun v H1 _ _ _ _ _ _ _ ⟨a, st1, μ1, g, S1, w, p⟩ => k v H1 a st1 μ1 (re.step g) S1 w g p⟩
theorem gT.then {γ δ : Type} {R2 : Rl δ γ} {Q : δ → Hp → Prop} {σ : L2.St} {H : Hp} {μ : Mp} {ρ : Env} {st : Sto} {m : Env → M Bool} {f : Bool → M γ} {Q1 : Bool → Hp → Prop}
    (re : RE X.K X.mg μ H σ ρ) (S : RSt X.K μ H st) (h : Post X.K X.mg R2 μ H Q (fun cls d H' => W cls d σ H') (M.bind (m ρ) f st))
    (k : ∀ a H1 st1 μ1, RE X.K X.mg μ1 H1 σ ρ → RSt X.K μ1 H1 st1 → Grow μ H μ1 H1 → Post X.K X.mg R2 μ1 H1 Q (fun cls d H' => W cls d σ H') (f a st1) → Q1 a H1) : gT X W m σ H Q1 :=
  ⟨μ, ρ, st, re, S, h.bind.mono fun v H1 _ _ _ _ _ _ _ ⟨a, st1, μ1, g, S1, w, p⟩ => by cases w; exact k v H1 st1 μ1 (re.step g) S1 g p⟩
theorem gA.then {γ δ : Type} {R2 : Rl δ γ} {Q : δ → Hp → Prop} {σ : L2.St} {H : Hp} {μ : Mp} {ρ : Env} {st : Sto} {m : Env → M (List Vl)} {f : List Vl → M γ} {Q1 : List V → Hp → Prop}
    (re : RE X.K X.mg μ H σ ρ) (S : RSt X.K μ H st) (h : Post X.K X.mg R2 μ H Q (fun cls d H' => W cls d σ H') (M.bind (m ρ) f st))
    (k : ∀ vs H1 as st1 μ1, RE X.K X.mg μ1 H1 σ ρ → RSt X.K μ1 H1 st1 → RVs X.K X.mg μ1 H1 vs as → Grow μ H μ1 H1 → Post X.K X.mg R2 μ1 H1 Q (fun cls d H' => W cls d σ H') (f as st1) → Q1 vs H1) : gA X W m σ H Q1 :=
  ⟨μ, ρ, st, re, S, h.bind.mono fun v H1 _ _ _ _ _ _ _ ⟨a, st1, μ1, g, S1, w, p⟩ => k v H1 a st1 μ1 (re.step g) S1 w g p⟩
/-- the value itself -/
theorem Post.here {α β : Type} {R : Rl β α} {μ : Mp} {H : Hp} {Q : β → Hp → Prop} {E : XK} {a : α} {st : Sto} {v : β} (h : Post X.K X.mg R μ H Q E (.ok a st)) (S : RSt X.K μ H st) (r : R μ H v a) : Q v H := h v H μ (Grow.refl _ _) S r
/-- primitives -/
theorem post2 {p : P2} {μ : Mp} {H : Hp} {Q : VK} {E : XK} {a b : Vl} {st : Sto} {x y : V} (h : Post X.K X.mg (RV X.K X.mg) μ H Q E (lift2 p a b st)) (ra : RV X.K X.mg μ H x a) (rb : RV X.K X.mg μ H y b) (S : RSt X.K μ H st) : rP X p x y H Q := by
  unfold lift2 at h
  split at h
  · rename_i v st' e
    exact ⟨μ, st, a, b, (v, st'), ra, rb, S, e, fun w H' μ' g S' q => h w H' μ' g S' q⟩
  · exact h.elim
theorem post1 {p : P1} {μ : Mp} {H : Hp} {Q : VK} {E : XK} {a : Vl} {st : Sto} {x : V} (h : Post X.K X.mg (RV X.K X.mg) μ H Q E (lift1 p a st)) (ra : RV X.K X.mg μ H x a) (S : RSt X.K μ H st) : rP1 X p x H Q := by
  unfold lift1 at h
  split at h
  · rename_i v st' e
    exact ⟨μ, st, a, (v, st'), ra, S, e, fun w H' μ' g S' q => h w H' μ' g S' q⟩
  · exact h.elim
theorem posts {p : Pr} {μ : Mp} {H : Hp} {Q : VK} {E : XK} {as : List Vl} {st : Sto} {xs : List V} (h : Post X.K X.mg (RV X.K X.mg) μ H Q E (liftP p as st)) (ra : RVs X.K X.mg μ H xs as) (S : RSt X.K μ H st) : rPs X p xs H Q := by
  unfold liftP at h
  split at h
  · rename_i v st' e
    exact ⟨μ, st, as, (v, st'), ra, S, e, fun w H' μ' g S' q => h w H' μ' g S' q⟩
  · exact h.elim

/-! ### names, constants -/
def slot : List Str → Str → Option Nat
  | [], _ => none
  | y :: r, x => if y = x then some 0 else (slot r x).map (· + 1)
theorem slot_get : ∀ {N : List Str} {x : Str} {i : Nat}, slot N x = some i → N[i]? = some x
  | [], _, _, e => by cases e
  | y :: r, x, i, e => by
    unfold slot at e
    split at e
    · rename_i h; cases e; subst h; rfl
    · cases h : slot r x with
      | none => rw [h] at e; cases e
      | some j => rw [h] at e; cases e; exact slot_get (N := r) h
def varM (i : Nat) : Env → M Vl := fun ρ st => match ρ[i]? with
  | some (some v) => .ok v st
  | _ => .bad
theorem ev_var {i : Nat} {x : Str} {pos : Pos} (hN : X.N[i]? = some x) (hv : Vis X.env.scope x) (hd : (x == ("__debug__" : Str)) = false) (hcd : (x == ("__classdict__" : Str)) = false) : PE X (.Name x pos) (gE X W (varM i)) :=
  (pe_var hN hv hd hcd).weak fun σ H Q ⟨μ, ρ, st, re, S, h⟩ => by
    unfold varM at h
    split at h
    · rename_i w e
      obtain ⟨v, h1, h2⟩ := re.at_ i w e
      exact ⟨v, h1, h.here S h2⟩
    · exact h.elim
def cM (d : PyData) : Env → M Vl := fun _ => ret (.d d)
theorem ev_c {e : Expr} {d : PyData} {v : V} (h : PE X e (tC v)) (r : ∀ μ H, RP X.K μ H v d) : PE X e (gE X W (cM d)) :=
  h.weak fun σ H Q ⟨μ, ρ, st, re, S, h⟩ => h.here S (.d (r μ H))
def glM (x : Str) : Env → M Vl := fun _ => ret (.gl x)
theorem ev_gl {e : Expr} {x : Str} {a : Addr} (h : PE X e (tC (.ref a))) (m : X.mg x = some (.ref a)) : PE X e (gE X W (glM x)) :=
  h.weak fun σ H Q ⟨μ, ρ, st, re, S, h⟩ => h.here S (.gl m)

/-! ### operators -/
def bin (p : P2) (f g : Env → M Vl) : Env → M Vl := fun ρ => M.bind (f ρ) fun a => M.bind (g ρ) fun b => lift2 p a b
theorem tOp_of {p : P2} {f g : Env → M Vl} {σ : L2.St} {H : Hp} {Q : VK} (h : gE X W (bin p f g) σ H Q) : tOp (rP X p) (gE X W f) (gE X W g) σ H Q := by
  obtain ⟨μ, ρ, st, re, S, h⟩ := h
  exact gE.then (β := Unit) re S h fun v H1 a st1 μ1 re1 S1 ra g1 h1 => gE.then (β := Unit) re1 S1 h1 fun w H2 b st2 μ2 re2 S2 rb g2 h2 => post2 h2 (ra.step g2) rb S2
theorem ev_bin {op : Operator} {p : P2} {a b : Expr} {f g : Env → M Vl} {pos : Pos} (ho : PrOk X (f2 (binaryOp op)) (l2 p)) (ha : PE X a (gE X W f)) (hb : PE X b (gE X W g)) : PE X (.BinOp a op b pos) (gE X W (bin p f g)) :=
  (pe_op ho.op ha hb).weak fun σ H Q h => tOp_of h
theorem ev_cmp {op : CmpOp} {p : P2} {a b : Expr} {f g : Env → M Vl} {pos : Pos} (ho : PrOk X (f2 (compareOp op)) (l2 p)) (ha : PE X a (gE X W f)) (hb : PE X b (gE X W g)) (hm : behindInMarks op b = false) : PE X (.Compare a [op] [b] pos) (gE X W (bin p f g)) :=
  (pe_cmpR ho.op ha hb hm).weak fun σ H Q h => tOp_of h
theorem ev_ix {a b : Expr} {f g : Env → M Vl} {pos : Pos} (ha : PE X a (gE X W f)) (hb : PE X b (gE X W g)) (hs : PlainIx b) : PE X (.Subscript a b pos) (gE X W (bin pIx2 f g)) :=
  (pe_ix rx_ok ha hb hs).weak fun σ H Q h => tOp_of h
def un (p : P1) (f : Env → M Vl) : Env → M Vl := fun ρ => M.bind (f ρ) fun a => lift1 p a
theorem ev_un {op : UnaryOp} {p : P1} {a : Expr} {f : Env → M Vl} {pos : Pos} (ho : PrOk X (f1 (unaryOp op)) (l1 p)) (ha : PE X a (gE X W f)) : PE X (.UnaryOp op a pos) (gE X W (un p f)) :=
  (pe_un ho.un ha).weak fun σ H Q ⟨μ, ρ, st, re, S, h⟩ => gE.then (β := Unit) re S h fun v H1 a st1 μ1 re1 S1 ra g1 h1 => post1 h1 ra S1
/-- a op b op' c -/
def asB : Vl → M Bool
  | .d (.bool b) => ret b
  | _ => nope
def chain (p q : P2) (f g h : Env → M Vl) : Env → M Vl := fun ρ => M.bind (f ρ) fun a => M.bind (g ρ) fun b => M.bind (lift2 p a b) fun r => M.bind (asB r) fun k => if k = true then M.bind (h ρ) fun c => lift2 q b c else ret (.d (.bool false))
theorem post_asB {β γ : Type} {R2 : Rl β γ} {μ : Mp} {H : Hp} {Q : β → Hp → Prop} {E : XK} {a : Vl} {st : Sto} {x : V} {f : Bool → M γ} (h : Post X.K X.mg R2 μ H Q E (M.bind (asB a) f st)) (r : RV X.K X.mg μ H x a) : ∃ k, x = .bl k ∧ Post X.K X.mg R2 μ H Q E (f k st) := by
  unfold asB at h
  split at h
  · rename_i b
    cases r with | d r => cases r; exact ⟨b, rfl, h⟩
  · exact h.elim
theorem tChain_of {p q : P2} {f g k : Env → M Vl} {σ : L2.St} {H : Hp} {Q : VK} (h : gE X W (chain p q f g k) σ H Q) : tChain (rP X p) (rP X q) (gE X W f) (gE X W g) (gE X W k) σ H Q := by
  obtain ⟨μ, ρ, st, re, S, h⟩ := h
  refine gE.then (β := Unit) re S h fun v H1 a st1 μ1 re1 S1 ra g1 h1 => gE.then (β := Unit) re1 S1 h1 fun w H2 b st2 μ2 re2 S2 rb g2 h2 => ?_
  refine post2 (Post.mono (Post.bind (R := RV X.K X.mg) h2) fun z H3 _ _ _ _ _ _ _ ⟨r, st3, μ3, g3, S3, rr, h3⟩ => ?_) (ra.step g2) rb S2
  obtain ⟨kk, rfl, h4⟩ := post_asB h3 rr
  refine ⟨kk, rfl, ?_⟩
  have re3 := re2.step g3
  split
  · rename_i hk
    rw [if_pos hk] at h4
    exact gE.then (β := Unit) re3 S3 h4 fun w' H4 c st4 μ4 re4 S4 rc g4 h5 => post2 h5 ((rb.step g3).step g4) rc S4
  · rename_i hk
    rw [if_neg hk] at h4
    exact h4.here S3 (.d (.bl _))
theorem ev_chain {op op' : CmpOp} {p q : P2} {a b c : Expr} {f g k : Env → M Vl} {pos : Pos} (ho : PrOk X (f2 (compareOp op)) (l2 p)) (ho' : PrOk X (f2 (compareOp op')) (l2 q)) (ha : PE X a (gE X W f)) (hb : PE X b (gE X W g)) (hc : PE X c (gE X W k))
    (hm : lastMarks [op, op'] [b, c] = false) : PE X (.Compare a [op, op'] [b, c] pos) (gE X W (chain p q f g k)) :=
  (pe_chain ho.op ho'.op ha hb hc hm).weak fun σ H Q h => tChain_of h

/-! ### truth, tests -/
def pTru (st : Sto) : Vl → Option Bool
  | .d .none => some false
  | .d (.bool b) => some b
  | .d (.int i) => some (i != 0)
  | .d (.str x) => if x.length ≤ sizeLine then some ((x.length : Int) != 0) else none
  | .d (.dict _) => none
  | .gl _ => none
  | .ty _ => none
  | a => (asQ st a).map fun xs => !xs.isEmpty
theorem tru_rd {μ : Mp} {H : Hp} {st : Sto} {v : V} {a : Vl} {k : Bool} (S : RSt X.K μ H st) (r : RV X.K X.mg μ H v a) (e : pTru st a = some k) : TruV X.K v H k := by
  have fin : ∀ {a : Vl}, RV X.K X.mg μ H v a → (asQ st a).map (fun xs => !xs.isEmpty) = some k → TruV X.K v H k := by
    intro a r e
    cases e1 : asQ st a with
    | none => rw [e1] at e; cases e
    | some xs =>
      rw [e1] at e
      cases e
      obtain ⟨p, vs, rfl, hp, r1⟩ := asQ_rd S r e1
      have he : xs.isEmpty = vs.isEmpty := by
        cases r1 <;> rfl
      rcases hp with hp | hp
      · exact .inl ⟨vs, hp, by show (!xs.isEmpty) = _; rw [he]⟩
      · exact .inr (.inl ⟨vs, hp, by show (!xs.isEmpty) = _; rw [he]⟩)
  cases a with
  | d x =>
    cases x with
    | none => cases r with | d r => cases r; cases e; rfl
    | bool b => cases r with | d r => cases r; cases e; rfl
    | int b => cases r with | d r => cases r; cases e; rfl
    | str b =>
      cases r with
      | d r =>
        cases r
        simp only [pTru] at e
        split at e
        · rename_i h; cases e; exact ⟨h, rfl⟩
        · cases e
    | list xs => exact fin r e
    | tuple xs => exact fin r e
    | dict xs => cases e
  | ref n => exact fin r e
  | gl x => cases e
  | ty x => cases e
def truM (a : Vl) : M Bool := fun st => match pTru st a with
  | some k => .ok k st
  | none => .bad
def tst (f : Env → M Vl) : Env → M Bool := fun ρ => M.bind (f ρ) truM
theorem post_tru {β γ : Type} {R2 : Rl β γ} {μ : Mp} {H : Hp} {Q : β → Hp → Prop} {E : XK} {a : Vl} {st : Sto} {x : V} {f : Bool → M γ} (h : Post X.K X.mg R2 μ H Q E (M.bind (truM a) f st)) (S : RSt X.K μ H st) (r : RV X.K X.mg μ H x a) :
    ∃ k, TruV X.K x H k ∧ Post X.K X.mg R2 μ H Q E (f k st) := by
  simp only [truM, M.bind] at h
  cases e : pTru st a with
  | none => rw [e] at h; exact h.elim
  | some k => rw [e] at h; exact ⟨k, tru_rd S r e, h⟩
theorem post_tru0 {μ : Mp} {H : Hp} {Q : Bool → Hp → Prop} {E : XK} {a : Vl} {st : Sto} {x : V} (h : Post X.K X.mg RBo μ H Q E (truM a st)) (S : RSt X.K μ H st) (r : RV X.K X.mg μ H x a) : ∃ k, TruV X.K x H k ∧ Q k H := by
  simp only [truM] at h
  cases e : pTru st a with
  | none => rw [e] at h; exact h.elim
  | some k => rw [e] at h; exact ⟨k, tru_rd S r e, h.here S rfl⟩
theorem te_val {e : Expr} {f : Env → M Vl} (ha : PE X e (gE X W f)) (he : ∀ whole, isTrue e X.env whole = (do let v ← whole; standAt e.pos; holding [v] (truthy v))) : PT X e (gT X W (tst f)) :=
  (pt_truth ha he).weak fun σ H Q ⟨μ, ρ, st, re, S, h⟩ => gE.then (β := Unit) re S h fun v H1 a st1 μ1 re1 S1 ra g1 h1 => post_tru0 h1 S1 ra
def bM (f : Env → M Vl) : Env → M Bool := fun ρ => M.bind (f ρ) asB
theorem post_asB0 {μ : Mp} {H : Hp} {Q : Bool → Hp → Prop} {E : XK} {a : Vl} {st : Sto} {x : V} (h : Post X.K X.mg RBo μ H Q E (asB a st)) (S : RSt X.K μ H st) (r : RV X.K X.mg μ H x a) : ∃ k, x = .bl k ∧ Q k H := by
  unfold asB at h
  split at h
  · rename_i b
    cases r with | d r => cases r; exact ⟨b, rfl, h.here S rfl⟩
  · exact h.elim
theorem tTest_of {t : TE} {f : Env → M Vl} {σ : L2.St} {H : Hp} {Q : Bool → Hp → Prop} (w : ∀ Q, gE X W f σ H Q → t σ H Q) (h : gT X W (bM f) σ H Q) : tTest t σ H Q := by
  obtain ⟨μ, ρ, st, re, S, h⟩ := h
  exact w _ (gE.then (β := Unit) re S h fun v H1 a st1 μ1 re1 S1 ra g1 h1 => post_asB0 h1 S1 ra)
theorem te_cmp {op : CmpOp} {p : P2} {a b : Expr} {f g : Env → M Vl} {pos : Pos} (ho : PrOk X (f2 (compareOp op)) (l2 p)) (ha : PE X a (gE X W f)) (hb : PE X b (gE X W g)) (hm : behindInMarks op b = false) : PT X (.Compare a [op] [b] pos) (gT X W (bM (bin p f g))) :=
  (pt_cmpR ho.op ha hb hm).weak fun σ H Q h => tTest_of (fun Q h => tOp_of h) h
theorem te_chain {op op' : CmpOp} {p q : P2} {a b c : Expr} {f g k : Env → M Vl} {pos : Pos} (ho : PrOk X (f2 (compareOp op)) (l2 p)) (ho' : PrOk X (f2 (compareOp op')) (l2 q)) (ha : PE X a (gE X W f)) (hb : PE X b (gE X W g)) (hc : PE X c (gE X W k))
    (hm : lastMarks [op, op'] [b, c] = false) : PT X (.Compare a [op, op'] [b, c] pos) (gT X W (bM (chain p q f g k))) :=
  (pt_chain ho.op ho'.op ha hb hc hm).weak fun σ H Q h => tTest_of (fun Q h => tChain_of h) h
def notM (f : Env → M Bool) : Env → M Bool := fun ρ => M.bind (f ρ) fun b => ret (!b)
theorem te_not {a : Expr} {f : Env → M Bool} {pos : Pos} (ha : PT X a (gT X W f)) : PT X (.UnaryOp .Not a pos) (gT X W (notM f)) :=
  (pt_not ha).weak fun σ H Q ⟨μ, ρ, st, re, S, h⟩ => gT.then re S h fun b H1 st1 μ1 re1 S1 g1 h1 => h1.here S1 rfl
def andM (f g : Env → M Bool) : Env → M Bool := fun ρ => M.bind (f ρ) fun b => if b = true then g ρ else ret false
def orM (f g : Env → M Bool) : Env → M Bool := fun ρ => M.bind (f ρ) fun b => if b = true then ret true else g ρ
theorem tw_and {a b : Expr} {rest : List Expr} {f g : Env → M Bool} {pos : Pos} (ha : PT X a (gT X W f)) (hb : PW X (.BoolOp .And (b :: rest) pos) (gT X W g)) : PW X (.BoolOp .And (a :: b :: rest) pos) (gT X W (andM f g)) :=
  (pw_and ha hb).weak fun σ H Q ⟨μ, ρ, st, re, S, h⟩ => gT.then re S h fun k H1 st1 μ1 re1 S1 g1 h1 => by
    split
    · rename_i hk; rw [if_pos hk] at h1; exact ⟨μ1, ρ, st1, re1, S1, h1⟩
    · rename_i hk; rw [if_neg hk] at h1; exact h1.here S1 rfl
theorem tw_or {a b : Expr} {rest : List Expr} {f g : Env → M Bool} {pos : Pos} (ha : PT X a (gT X W f)) (hb : PW X (.BoolOp .Or (b :: rest) pos) (gT X W g)) : PW X (.BoolOp .Or (a :: b :: rest) pos) (gT X W (orM f g)) :=
  (pw_or ha hb).weak fun σ H Q ⟨μ, ρ, st, re, S, h⟩ => gT.then re S h fun k H1 st1 μ1 re1 S1 g1 h1 => by
    split
    · rename_i hk; rw [if_pos hk] at h1; exact h1.here S1 rfl
    · rename_i hk; rw [if_neg hk] at h1; exact ⟨μ1, ρ, st1, re1, S1, h1⟩
/-- as values -/
def andV (f g : Env → M Vl) : Env → M Vl := fun ρ => M.bind (f ρ) fun a => M.bind (truM a) fun b => if b = true then g ρ else ret a
def orV (f g : Env → M Vl) : Env → M Vl := fun ρ => M.bind (f ρ) fun a => M.bind (truM a) fun b => if b = true then ret a else g ρ
theorem ev_and {a b : Expr} {rest : List Expr} {f g : Env → M Vl} {pos : Pos} (ha : PE X a (gE X W f)) (hb : PE X (.BoolOp .And (b :: rest) pos) (gE X W g)) : PE X (.BoolOp .And (a :: b :: rest) pos) (gE X W (andV f g)) :=
  (pe_andT ha hb).weak fun σ H Q ⟨μ, ρ, st, re, S, h⟩ => gE.then (β := Unit) re S h fun v H1 a st1 μ1 re1 S1 ra g1 h1 => by
    obtain ⟨k, hk, h2⟩ := post_tru h1 S1 ra
    refine ⟨k, hk, ?_⟩
    split
    · rename_i hk; rw [if_pos hk] at h2; exact ⟨μ1, ρ, st1, re1, S1, h2⟩
    · rename_i hk; rw [if_neg hk] at h2; exact h2.here S1 ra
theorem ev_or {a b : Expr} {rest : List Expr} {f g : Env → M Vl} {pos : Pos} (ha : PE X a (gE X W f)) (hb : PE X (.BoolOp .Or (b :: rest) pos) (gE X W g)) : PE X (.BoolOp .Or (a :: b :: rest) pos) (gE X W (orV f g)) :=
  (pe_orT ha hb).weak fun σ H Q ⟨μ, ρ, st, re, S, h⟩ => gE.then (β := Unit) re S h fun v H1 a st1 μ1 re1 S1 ra g1 h1 => by
    obtain ⟨k, hk, h2⟩ := post_tru h1 S1 ra
    refine ⟨k, hk, ?_⟩
    split
    · rename_i hk; rw [if_pos hk] at h2; exact h2.here S1 ra
    · rename_i hk; rw [if_neg hk] at h2; exact ⟨μ1, ρ, st1, re1, S1, h2⟩
def notV (f : Env → M Vl) : Env → M Vl := fun ρ => M.bind (f ρ) fun a => M.bind (truM a) fun b => ret (.d (.bool (!b)))
theorem ev_not {a : Expr} {f : Env → M Vl} {pos : Pos} (ha : PE X a (gE X W f)) : PE X (.UnaryOp .Not a pos) (gE X W (notV f)) :=
  (pe_notT ha).weak fun σ H Q ⟨μ, ρ, st, re, S, h⟩ => gE.then (β := Unit) re S h fun v H1 a st1 μ1 re1 S1 ra g1 h1 => by
    obtain ⟨k, hk, h2⟩ := post_tru h1 S1 ra
    exact ⟨k, hk, h2.here S1 (.d (.bl _))⟩
def ifV (c : Env → M Bool) (f g : Env → M Vl) : Env → M Vl := fun ρ => M.bind (c ρ) fun b => if b = true then f ρ else g ρ
theorem ev_if {c a b : Expr} {k : Env → M Bool} {f g : Env → M Vl} {pos : Pos} (hc : PT X c (gT X W k)) (ha : PE X a (gE X W f)) (hb : PE X b (gE X W g)) : PE X (.IfExp c a b pos) (gE X W (ifV k f g)) :=
  (pe_ifExp hc ha hb).weak fun σ H Q ⟨μ, ρ, st, re, S, h⟩ => gT.then re S h fun b H1 st1 μ1 re1 S1 g1 h1 => by
    split
    · rename_i hk; rw [if_pos hk] at h1; exact ⟨μ1, ρ, st1, re1, S1, h1⟩
    · rename_i hk; rw [if_neg hk] at h1; exact ⟨μ1, ρ, st1, re1, S1, h1⟩

/-! ### argument lists, displays -/
def nilM : Env → M (List Vl) := fun _ => ret []
def consM (f : Env → M Vl) (g : Env → M (List Vl)) : Env → M (List Vl) := fun ρ => M.bind (f ρ) fun a => M.bind (g ρ) fun as => ret (a :: as)
theorem ev_nil : PA X [] (gA X W nilM) := pa_nil.weak fun σ H Q ⟨μ, ρ, st, re, S, h⟩ => h.here S .nil
theorem ev_cons {e : Expr} {es : List Expr} {f : Env → M Vl} {g : Env → M (List Vl)} (ha : PE X e (gE X W f)) (hb : PA X es (gA X W g)) (hs : starEach (e :: es) X.env = (false, eval e X.env) :: starEach es X.env) : PA X (e :: es) (gA X W (consM f g)) :=
  (pa_cons ha hb hs).weak fun σ H Q ⟨μ, ρ, st, re, S, h⟩ => gE.then (β := Unit) re S h fun v H1 a st1 μ1 re1 S1 ra g1 h1 => gA.then re1 S1 h1 fun vs H2 as st2 μ2 re2 S2 ras g2 h2 => h2.here S2 (.cons (ra.step g2) ras)
/-- a cell's data is taken as it stands: it is never changed again -/
def frz1 (st : Sto) : Vl → Option (PyData × Sto)
  | .d x => some (x, st)
  | .ref n => match st[n]? with
    | some (.lst xs) => some (.list xs, st.set n .dead)
    | some (.dct kvs) => some (.dict kvs, st.set n .dead)
    | _ => none
  | .gl _ => none
  | .ty _ => none
theorem frz1_ok {μ : Mp} {H : Hp} {st st' : Sto} {v : V} {a : Vl} {x : PyData} (S : RSt X.K μ H st) (r : RV X.K X.mg μ H v a) (e : frz1 st a = some (x, st')) : ∃ μ', Grow μ H μ' H ∧ RSt X.K μ' H st' ∧ RP X.K μ' H v x := by
  cases a with
  | d y => cases e; cases r with | d r => exact ⟨μ, Grow.refl _ _, S, r⟩
  | ref n =>
    cases r with
    | ref r =>
      rename_i p
      simp only [frz1] at e
      split at e
      · rename_i ys hy
        cases e
        rcases r with r | r
        · obtain ⟨vs, h1, h2⟩ := S.cell n _ _ r hy
          have g : Grow μ H (μ.kill n) H := Grow.kill
          refine ⟨μ.kill n, g, S.kill n, .lst (.inl ⟨.inl h1, notin_kill S r, fun hh => ?_⟩) (h2.step g)⟩
          exact S.dis p hh (List.mem_of_getElem? r)
        · exact (S.cell n _ _ r hy).elim
      · rename_i ys hy
        cases e
        rcases r with r | r
        · obtain ⟨vs, h1, h2⟩ := S.cell n _ _ r hy
          have g : Grow μ H (μ.kill n) H := Grow.kill
          refine ⟨μ.kill n, g, S.kill n, .dct (.inl h1) ⟨notin_kill S r, fun hh => ?_⟩ (h2.step g)⟩
          exact S.dis p hh (List.mem_of_getElem? r)
        · exact (S.cell n _ _ r hy).elim
      · cases e
  | gl x => cases e
  | ty x => cases e
def frzs (st : Sto) : List Vl → Option (List PyData × Sto)
  | [] => some ([], st)
  | a :: as => (frz1 st a).bind fun (x, st1) => (frzs st1 as).map fun (xs, st2) => (x :: xs, st2)
theorem frzs_ok : ∀ {as : List Vl} {μ : Mp} {H : Hp} {st st' : Sto} {vs : List V} {xs : List PyData}, RSt X.K μ H st → RVs X.K X.mg μ H vs as → frzs st as = some (xs, st') → ∃ μ', Grow μ H μ' H ∧ RSt X.K μ' H st' ∧ RPs X.K μ' H vs xs
  | [], μ, H, st, st', _, xs, S, .nil, e => by cases e; exact ⟨μ, Grow.refl _ _, S, .nil⟩
  | a :: as, μ, H, st, st', _, xs, S, .cons r rs, e => by
    simp only [frzs] at e
    cases e1 : frz1 st a with
    | none => rw [e1] at e; cases e
    | some q =>
      obtain ⟨x, st1⟩ := q
      rw [e1, Option.bind_some] at e
      dsimp only at e
      cases e2 : frzs st1 as with
      | none => rw [e2] at e; cases e
      | some q2 =>
        obtain ⟨xs', st2⟩ := q2
        rw [e2] at e
        cases e
        obtain ⟨μ1, g1, S1, r1⟩ := frz1_ok S r e1
        obtain ⟨μ2, g2, S2, r2⟩ := frzs_ok S1 (rs.step g1) e2
        exact ⟨μ2, g1.trans g2, S2, .cons (r1.step g2) r2⟩
def frzM (a : Vl) : M PyData := fun st => match frz1 st a with
  | some (x, st') => .ok x st'
  | none => .bad
def frzsM (as : List Vl) : M (List PyData) := fun st => match frzs st as with
  | some (x, st') => .ok x st'
  | none => .bad
theorem post_frzs {β γ : Type} {R2 : Rl β γ} {μ : Mp} {H : Hp} {Q : β → Hp → Prop} {E : XK} {as : List Vl} {st : Sto} {vs : List V} {f : List PyData → M γ} (h : Post X.K X.mg R2 μ H Q E (M.bind (frzsM as) f st)) (S : RSt X.K μ H st) (r : RVs X.K X.mg μ H vs as) :
    ∃ xs st1 μ1, Grow μ H μ1 H ∧ RSt X.K μ1 H st1 ∧ RPs X.K μ1 H vs xs ∧ Post X.K X.mg R2 μ1 H Q E (f xs st1) := by
  simp only [frzsM, M.bind] at h
  cases e : frzs st as with
  | none => rw [e] at h; exact h.elim
  | some q =>
    obtain ⟨xs, st1⟩ := q
    rw [e] at h
    obtain ⟨μ1, g, S1, r1⟩ := frzs_ok S r e
    exact ⟨xs, st1, μ1, g, S1, r1, Post.from_ g h⟩
theorem post_frz {β γ : Type} {R2 : Rl β γ} {μ : Mp} {H : Hp} {Q : β → Hp → Prop} {E : XK} {a : Vl} {st : Sto} {v : V} {f : PyData → M γ} (h : Post X.K X.mg R2 μ H Q E (M.bind (frzM a) f st)) (S : RSt X.K μ H st) (r : RV X.K X.mg μ H v a) :
    ∃ x st1 μ1, Grow μ H μ1 H ∧ RSt X.K μ1 H st1 ∧ RP X.K μ1 H v x ∧ Post X.K X.mg R2 μ1 H Q E (f x st1) := by
  simp only [frzM, M.bind] at h
  cases e : frz1 st a with
  | none => rw [e] at h; exact h.elim
  | some q =>
    obtain ⟨xs, st1⟩ := q
    rw [e] at h
    obtain ⟨μ1, g, S1, r1⟩ := frz1_ok S r e
    exact ⟨xs, st1, μ1, g, S1, r1, Post.from_ g h⟩
def tupM (f : Env → M (List Vl)) : Env → M Vl := fun ρ => M.bind (f ρ) fun as => M.bind (frzsM as) fun xs => if xs.length ≤ sizeLine then ret (.d (.tuple xs)) else nope
def lstM (f : Env → M (List Vl)) : Env → M Vl := fun ρ => M.bind (f ρ) fun as => M.bind (frzsM as) fun xs => if xs.length ≤ sizeLine then ret (.d (.list xs)) else nope
theorem ev_tup {es : List Expr} {f : Env → M (List Vl)} {k : Nat} {pos : Pos} (h : PA X es (gA X W f)) : PE X (.Tuple es k pos) (gE X W (tupM f)) :=
  (pe_tup h).weak fun σ H Q ⟨μ, ρ, st, re, S, h⟩ => gA.then re S h fun vs H1 as st1 μ1 re1 S1 ras g1 h1 => by
    obtain ⟨xs, st2, μ2, g2, S2, r2, h2⟩ := post_frzs h1 S1 ras
    split at h2
    · rename_i hz
      refine ⟨by rw [r2.length]; exact hz, fun p hp => ?_⟩
      obtain ⟨μ3, g3, S3, r3⟩ := newT (X := X) S2 r2 hp
      exact h2 _ _ μ3 g3 S3 r3
    · exact h2.elim
theorem ev_lst {es : List Expr} {f : Env → M (List Vl)} {pos : Pos} (h : PA X es (gA X W f)) : PE X (.List es pos) (gE X W (lstM f)) :=
  (pe_lst h).weak fun σ H Q ⟨μ, ρ, st, re, S, h⟩ => gA.then re S h fun vs H1 as st1 μ1 re1 S1 ras g1 h1 => by
    obtain ⟨xs, st2, μ2, g2, S2, r2, h2⟩ := post_frzs h1 S1 ras
    split at h2
    · rename_i hz
      refine ⟨by rw [r2.length]; exact hz, fun p hp => ?_⟩
      obtain ⟨μ3, g3, S3, r3⟩ := newL (X := X) S2 r2 hp
      exact h2 _ _ μ3 g3 S3 r3
    · exact h2.elim
end
end Iv
set_option Elab.async false
set_option linter.all false
set_option maxRecDepth 100000
set_option maxHeartbeats 4000000
/-! Iv6: slices, calls. -/
namespace Iv
open PySem PySem.Spec PyProof.Rows L2
section
variable {X : Cx} {W : WX}
/-! ### slices -/
def gO (X : Cx) (W : WX) (m : Env → M (Option Int)) : TO := fun σ H Q => ∃ (μ : Mp) (ρ : Env) (st : Sto), RE X.K X.mg μ H σ ρ ∧ RSt X.K μ H st ∧ Post X.K X.mg (fun _ _ v a => v = a) μ H Q (fun cls d H' => W cls d σ H') (m ρ st)
theorem _root_.L2.PO.weak {e : Option Expr} {t t' : TO} (h : PO X e t) (w : ∀ σ H Q, t' σ H Q → t σ H Q) : PO X e t' := ⟨fun pins s σ H Q I q => h.run pins s σ H Q I (w σ H Q q)⟩
theorem gO.then {γ δ : Type} {R2 : Rl δ γ} {Q : δ → Hp → Prop} {σ : L2.St} {H : Hp} {μ : Mp} {ρ : Env} {st : Sto} {m : Env → M (Option Int)} {f : Option Int → M γ} {Q1 : Option Int → Hp → Prop}
    (re : RE X.K X.mg μ H σ ρ) (S : RSt X.K μ H st) (h : Post X.K X.mg R2 μ H Q (fun cls d H' => W cls d σ H') (M.bind (m ρ) f st))
    (k : ∀ a H1 st1 μ1, RE X.K X.mg μ1 H1 σ ρ → RSt X.K μ1 H1 st1 → Grow μ H μ1 H1 → Post X.K X.mg R2 μ1 H1 Q (fun cls d H' => W cls d σ H') (f a st1) → Q1 a H1) : gO X W m σ H Q1 :=
  ⟨μ, ρ, st, re, S, h.bind.mono fun v H1 _ _ _ _ _ _ _ ⟨a, st1, μ1, g, S1, w, p⟩ => by cases w; exact k v H1 st1 μ1 (re.step g) S1 g p⟩
def noO : Env → M (Option Int) := fun _ => ret none
def asI : Vl → M (Option Int)
  | .d (.int i) => ret (some i)
  | _ => nope
def someO (f : Env → M Vl) : Env → M (Option Int) := fun ρ => M.bind (f ρ) asI
theorem eo_none : PO X none (gO X W noO) := po_none.weak fun σ H Q ⟨μ, ρ, st, re, S, h⟩ => h.here S rfl
theorem eo_some {e : Expr} {f : Env → M Vl} (ha : PE X e (gE X W f)) : PO X (some e) (gO X W (someO f)) :=
  (po_some ha).weak fun σ H Q ⟨μ, ρ, st, re, S, h⟩ => gE.then (β := Unit) re S h fun v H1 a st1 μ1 re1 S1 ra g1 h1 => by
    unfold asI at h1
    split at h1
    · rename_i i
      cases ra with | d ra => cases ra; exact ⟨i, rfl, h1.here S1 rfl⟩
    · exact h1.elim
def slM (f : Env → M Vl) (l u : Env → M (Option Int)) : Env → M Vl := fun ρ => M.bind (f ρ) fun a => M.bind (l ρ) fun lo => M.bind (u ρ) fun hi => lift1 (pSl lo hi) a
theorem ev_slice {e : Expr} {lo hi : Option Expr} {f : Env → M Vl} {l u : Env → M (Option Int)} {pos p2 : Pos} (he : PE X e (gE X W f)) (hl : PO X lo (gO X W l)) (hu : PO X hi (gO X W u)) : PE X (.Subscript e (.Slice lo hi none p2) pos) (gE X W (slM f l u)) :=
  (pe_slice sl_ok he hl hu).weak fun σ H Q ⟨μ, ρ, st, re, S, h⟩ => gE.then (β := Unit) re S h fun v H1 a st1 μ1 re1 S1 ra g1 h1 =>
    gO.then re1 S1 h1 fun l H2 st2 μ2 re2 S2 g2 h2 => gO.then re2 S2 h2 fun u H3 st3 μ3 re3 S3 g3 h3 => by
      obtain ⟨μ', st', a', r, q1, q2, q3, q4⟩ := post1 h3 ((ra.step g2).step g3) S3
      exact ⟨μ', st', a', r, q1, q2, q3, q4⟩

/-! ### calls -/
def noStar : List Expr → Bool
  | [] => true
  | .Starred .. :: _ => false
  | _ :: r => noStar r
theorem star_cons {e : Expr} {es : List Expr} {env : PySem.Env} (h : noStar (e :: es) = true) : starEach (e :: es) env = (false, eval e env) :: starEach es env := by
  cases e <;> first | rfl | (simp [noStar] at h)
theorem star_tail {e : Expr} {es : List Expr} (h : noStar (e :: es) = true) : noStar es = true := by
  cases e <;> first | exact h | (simp [noStar] at h)
theorem star_any : ∀ {es : List Expr} {env : PySem.Env} {pos : Pos}, noStar es = true → (backTo pos (starEach es env)).any (·.1) = false
  | [], _, _, _ => rfl
  | e :: es, env, pos, h => by
    rw [star_cons h]
    show (false || (backTo pos (starEach es env)).any (·.1)) = false
    rw [star_any (star_tail h)]
    rfl
def callF (n : Nat) (c : List Vl → M Vl) (f : Env → M (List Vl)) : Env → M Vl := fun ρ => M.bind (f ρ) (guardN n c)
theorem tCallS_of {c : List Vl → M Vl} {f : Env → M (List Vl)} {n : Nat} {σ : L2.St} {H : Hp} {Q : VK} (h : gE X W (callF n c f) σ H Q) : tCallS (spI X.K X.mg c n) (WE W) (gA X W f) σ H Q := by
  obtain ⟨μ, ρ, st, re, S, h⟩ := h
  exact ⟨μ, ρ, st, re, S, h.bind.mono fun vs H1 as' st' μ' e g S' rs ⟨as, st1, μ1, g1, S1, w, p⟩ => ⟨μ1, st1, as, w, S1, p⟩⟩
theorem ev_call {c : List Vl → M Vl} {a : Addr} {fd : FuncData} {ps : List Str} {n k : Nat} {x : Str} {p pos : Pos} {e : Expr} {es : List Expr} {f : Env → M (List Vl)} (tk : Takes X W)
    (F : FnG X.prog X.w X.K X.mg X.base k a fd ps (spI X.K X.mg c n)) (hr : Room k X.A) (gd : X.A.guards = some []) (hg : Gl X x) (hm : X.mg x = some (.ref a)) (hk : PySem.W.keepIn X.K (.ref a) = true) (hb : Binds X.K fd ps [])
    (ha : PA X (e :: es) (gA X W f)) (hs : noStar (e :: es) = true) (hdb : (x == ("__debug__" : Str)) = false) : PE X (.Call (.Name x p) (e :: es) [] pos) (gE X W (callF n c f)) :=
  (pe_callG F hr gd hg hm hk hb (fun σ => passAt tk σ) ha hdb (star_cons hs) (star_any (star_tail hs))).weak fun σ H Q h => tCallS_of h
theorem pick_len {α β : Type} {l : List α} {m : List β} (h : l.length = m.length) : ∀ ix : List Nat, (pick ix l).length = (pick ix m).length
  | [] => rfl
  | j :: ix => by
    have ih := pick_len h ix
    unfold pick at ih ⊢
    rw [List.filterMap_cons, List.filterMap_cons]
    by_cases q : j < l.length
    · rw [List.getElem?_eq_getElem q, List.getElem?_eq_getElem (h ▸ q)]
      simp [ih]
    · rw [List.getElem?_eq_none (by omega), List.getElem?_eq_none (by omega)]
      exact ih
theorem Vals.at_ {vs : List V} {us : List Value} (r : Vals vs us) : ∀ j : Nat, (vs[j]? = none ∧ us[j]? = none) ∨ ∃ v u, vs[j]? = some v ∧ us[j]? = some u ∧ RelV v u := by
  induction r with
  | nil => intro j; exact .inl ⟨by simp, by simp⟩
  | cons h t ih =>
    intro j
    cases j with
    | zero => exact .inr ⟨_, _, rfl, rfl, h⟩
    | succ j => simpa using ih j
theorem Vals.pick {vs : List V} {us : List Value} (r : Vals vs us) : ∀ ix : List Nat, Vals (Iv.pick ix vs) (Iv.pick ix us)
  | [] => .nil
  | j :: ix => by
    have ih := Vals.pick r ix
    unfold Iv.pick at ih ⊢
    rw [List.filterMap_cons, List.filterMap_cons]
    rcases Vals.at_ r j with ⟨h1, h2⟩ | ⟨v, u, h1, h2, h3⟩
    · rw [h1, h2]; exact ih
    · rw [h1, h2]; exact .cons h3 ih
theorem RVs.at_ {K : PySem.W.Frag} {mg : Str → Option Value} {μ : Mp} {H : Hp} {vs : List V} {us : List Vl} (r : RVs K mg μ H vs us) : ∀ j : Nat, (vs[j]? = none ∧ us[j]? = none) ∨ ∃ v u, vs[j]? = some v ∧ us[j]? = some u ∧ RV K mg μ H v u := by
  induction r with
  | nil => intro j; exact .inl ⟨by simp, by simp⟩
  | cons h t ih =>
    intro j
    cases j with
    | zero => exact .inr ⟨_, _, rfl, rfl, h⟩
    | succ j => simpa using ih j
theorem RVs.pick {K : PySem.W.Frag} {mg : Str → Option Value} {μ : Mp} {H : Hp} {vs : List V} {us : List Vl} (r : RVs K mg μ H vs us) : ∀ ix : List Nat, RVs K mg μ H (Iv.pick ix vs) (Iv.pick ix us)
  | [] => .nil
  | j :: ix => by
    have ih := RVs.pick r ix
    unfold Iv.pick at ih ⊢
    rw [List.filterMap_cons, List.filterMap_cons]
    rcases RVs.at_ r j with ⟨h1, h2⟩ | ⟨v, u, h1, h2, h3⟩
    · rw [h1, h2]; exact ih
    · rw [h1, h2]; exact .cons h3 ih
theorem RVs.app {K : PySem.W.Frag} {mg : Str → Option Value} {μ : Mp} {H : Hp} {vs : List V} {us : List Vl} (r : RVs K mg μ H vs us) {vs' : List V} {us' : List Vl} (r' : RVs K mg μ H vs' us') : RVs K mg μ H (vs ++ vs') (us ++ us') := by
  induction r with
  | nil => exact r'
  | cons h t ih => exact .cons h ih
theorem RVs.len {K : PySem.W.Frag} {mg : Str → Option Value} {μ : Mp} {H : Hp} {vs : List V} {us : List Vl} (r : RVs K mg μ H vs us) : vs.length = us.length := by
  induction r with
  | nil => rfl
  | cons h t ih => simp [ih]
theorem RVs.ofD {K : PySem.W.Frag} {mg : Str → Option Value} {μ : Mp} {H : Hp} {vs : List V} {ds : List PyData} (r : RPs K μ H vs ds) : RVs K mg μ H vs (ds.map Vl.d) := by
  induction ds generalizing vs with
  | nil => cases r; exact .nil
  | cons d ds ih => cases r with | cons h t => exact .cons (.d h) (ih t)
/-- a call with keywords; what lacks is taken from the defaults -/
def callK (i : FI) (ks : List Str) (c : List Vl → M Vl) (f g : Env → M (List Vl)) : Env → M Vl := fun ρ => M.bind (f ρ) fun as => M.bind (g ρ) fun zs =>
  if as.length = i.n ∧ zs.length = ks.length then guardN (i.n + i.kw.length) c (as ++ pick (selIx ks i.kw 0) (zs ++ (missK ks i.kw).map fun y => .d y.2)) else nope
theorem run_gk {k : Nat} {a : Addr} {fd : FuncData} {ps ks : List Str} {sp : Sp} {E : L2.St → XK} {pins : List (Addr × Obj)} {σ : L2.St} {H : Hp} {s : Shared} {Q : VK} {us ws us' : List Value} {vs : List V} (F : FnG X.prog X.w X.K X.mg X.base k a fd ps sp) (room : Room k X.A) (gd : X.A.guards = some [])
    (bb : BindsTo s fd ⟨us, ks.zip ws⟩ (ps.zip us')) (pass : PassesAt (L2.CX X.prog X.w) X σ (E σ)) (J : Inv X pins σ H s) (rv : Vals vs us') (ask : sp vs H Q (E σ)) : wpAny (model X.prog X.w) X.A (call (.ref a) us (ks.zip ws)) (EP X pins σ Q) X.xe s := by
  refine wpAny_call (codeAny_mono (F.run X.A X.stack s H ⟨us, ks.zip ws⟩ us' vs Q (E σ) room gd J.env0 bb rv ask) fun res s2 fin => ?_)
  match res, fin with
  | .error x, fin => exact pass pins H s x s2 J fin
  | .ok (.ret u), fin => exact J.after fin
  | .ok .next, fin => exact fin.elim
  | .ok .brk, fin => exact fin.elim
  | .ok .cont, fin => exact fin.elim
theorem ev_callK {c : List Vl → M Vl} {a : Addr} {fd : FuncData} {ps ks : List Str} {i : FI} {k : Nat} {x : Str} {p pos : Pos} {e : Expr} {es : List Expr} {kws : List Keyword} {f g : Env → M (List Vl)} (tk : Takes X W)
    (F : FnG X.prog X.w X.K X.mg X.base k a fd ps (spI X.K X.mg c (i.n + i.kw.length))) (hr : Room k X.A) (gd : X.A.guards = some []) (hg : Gl X x) (hm : X.mg x = some (.ref a)) (hk : PySem.W.keepIn X.K (.ref a) = true) (hb : BindsK X.K fd ps i ks)
    (ha : PA X (e :: es) (gA X W f)) (hkw : PK X kws (gA X W g)) (hs : noStar (e :: es) = true) (hks : kws.map (·.arg) = ks.map some) (hdb : (x == ("__debug__" : Str)) = false) : PE X (.Call (.Name x p) (e :: es) kws pos) (gE X W (callK i ks c f g)) := by
  have names : ∀ (pos : Pos) {kws : List Keyword} {ks : List Str}, kws.map (·.arg) = ks.map some → (backToKw pos (keywordEach kws X.env)).map (·.1) = ks.map some := by
    intro pos kws
    induction kws with
    | nil => intro ks h; exact h
    | cons q r ih =>
      intro ks h
      cases ks with
      | nil => cases h
      | cons y ks =>
        obtain ⟨qa, qv, qp⟩ := q
        simp only [List.map_cons, List.cons.injEq] at h
        show qa :: (backToKw pos (keywordEach r X.env)).map (·.1) = some y :: ks.map some
        rw [h.1, ih h.2]
  have fm : ∀ {l : List (Option Str × Sem Value)} {ks : List Str}, l.map (·.1) = ks.map some → l.filterMap (·.1) = ks ∧ l.all (·.1.isSome) = true ∧ l.any (·.1.isNone) = false := by
    intro l
    induction l with
    | nil => intro ks h; cases ks with | nil => exact ⟨rfl, rfl, rfl⟩ | cons _ _ => cases h
    | cons q r ih =>
      intro ks h
      cases ks with
      | nil => cases h
      | cons y ks =>
        obtain ⟨qa, qv⟩ := q
        simp only [List.map_cons, List.cons.injEq] at h
        obtain ⟨h1, h2⟩ := h
        obtain ⟨i1, i2, i3⟩ := ih h2
        subst h1
        exact ⟨by rw [List.filterMap_cons]; simp [i1], by simpa using i2, by simpa using i3⟩
  obtain ⟨k1, k2, k3⟩ := fm (names pos hks)
  refine ⟨fun pins s σ H Q I h => ?_⟩
  obtain ⟨μ, ρ, st, re, S, h⟩ := h
  refine wpAny_Call_Name_kw (ld_glob I hg hm ?_ hdb)
  refine PySem.W.callWith_KW (h₀ := X.base) I.ok.mod.kin hk k2 (thn (ha.run pos pins s σ H (fun vs H1 => ∃ as st1 μ1, Grow μ H μ1 H1 ∧ RSt X.K μ1 H1 st1 ∧ RVs X.K X.mg μ1 H1 vs as ∧ Post X.K X.mg (RV X.K X.mg) μ1 H1 Q (fun cls d H' => W cls d σ H') (M.bind (g ρ) (fun zs => if as.length = i.n ∧ zs.length = ks.length then guardN (i.n + i.kw.length) c (as ++ pick (selIx ks i.kw 0) (zs ++ (missK ks i.kw).map fun y => .d y.2)) else nope) st1)) I
    (gA.then re S h fun vs H1 as st1 μ1 re1 S1 ra g1 h1 => ⟨as, st1, μ1, g1, S1, ra, h1⟩)) fun us s1 ⟨vs, H1, I1, r, as, st1, μ1, g1, S1, ra, h1⟩ => ?_) (by rw [star_cons hs]; show ((false || (backTo pos (starEach es X.env)).any (·.1)) || _) = false; rw [star_any (star_tail hs), k3]; rfl) (star_cons hs)
  refine thn (hkw.run pos pins s1 σ H1 (fun zv H2 => ∃ zs st2 μ2, Grow μ1 H1 μ2 H2 ∧ RSt X.K μ2 H2 st2 ∧ RVs X.K X.mg μ2 H2 zv zs ∧ Post X.K X.mg (RV X.K X.mg) μ2 H2 Q (fun cls d H' => W cls d σ H') ((if as.length = i.n ∧ zs.length = ks.length then guardN (i.n + i.kw.length) c (as ++ pick (selIx ks i.kw 0) (zs ++ (missK ks i.kw).map fun y => .d y.2)) else nope) st2)) I1
    (gA.then (re.step g1) S1 h1 fun vs H1 as st1 μ1 re1 S1 ra g1 h1 => ⟨as, st1, μ1, g1, S1, ra, h1⟩)) fun ws s2 ⟨zv, H2, I2, r2, zs, st2, μ2, g2, S2, rz, h2⟩ => ⟨I2.kIn, ?_⟩
  split at h2
  · rename_i hl
    obtain ⟨mv, mvV, e1, e2, bd⟩ := hb
    have ras := (ra.step g2)
    have l1 : us.length = i.n := by rw [← r.length, ra.len]; exact hl.1
    have l2 : ws.length = ks.length := by rw [← r2.length, rz.len]; exact hl.2
    have rm : RVs X.K X.mg μ2 H2 mvV ((missK ks i.kw).map fun y => .d y.2) := by
      have z := RVs.ofD (mg := X.mg) (e2 μ2 H2)
      rwa [List.map_map] at z
    rw [k1]
    exact run_gk F hr gd (E := fun σ cls d H' => W cls d σ H') (bd s2 us ws I2.kIn l1 l2) (passAt tk σ) I2 (r.append (Vals.pick (r2.append e1) _)) ⟨μ2, st2, _, ras.app ((rz.app rm).pick _), S2, h2⟩
  · exact h2.elim
/-- a function that is a value, called -/
def dyn (glob : Str → Option GVal) (cl : Str → List Vl → M Vl) (m : M (List Vl)) : Vl → M Vl
  | .gl x => fun st => match glob x with
    | some (.fn i) => if (i.kw.isEmpty && i.sh.contains []) = true then M.bind m (guardN i.n (cl x)) st else .bad
    | _ => .bad
  | _ => nope
def callD (glob : Str → Option GVal) (cl : Str → List Vl → M Vl) (f : Env → M Vl) (g : Env → M (List Vl)) : Env → M Vl := fun ρ => M.bind (f ρ) (dyn glob cl (g ρ))
theorem bindsK0 {K : PySem.W.Frag} {fd : FuncData} {ps : List Str} {i : FI} (h : BindsK K fd ps i []) (h0 : i.kw = []) (hl : ps.length = i.n + i.kw.length) : Binds K fd ps [] := by
  intro s us X len
  obtain ⟨mv, vs, _, _, bd⟩ := h
  have := bd s us [] X (by simpa [h0] using (len.trans hl)) rfl
  rw [h0] at this
  simpa [selIx, pick] using this
/-- a builtin called by its name -/
def callP (p : Pr) (f : Env → M (List Vl)) : Env → M Vl := fun ρ => M.bind (f ρ) fun as => liftP p as
theorem tCB_of {p : Pr} {f : Env → M (List Vl)} {σ : L2.St} {H : Hp} {Q : VK} (h : gE X W (callP p f) σ H Q) : tCB (rPs X p) (gA X W f) σ H Q := by
  obtain ⟨μ, ρ, st, re, S, h⟩ := h
  exact gA.then re S h fun vs H1 as st1 μ1 re1 S1 rs g1 h1 => posts h1 rs S1
theorem ev_callB {id : String} {p' : Pr} {x : Str} {p pos : Pos} {e : Expr} {es : List Expr} {f : Env → M (List Vl)} (hc : PrOk X (fun us => call (.builtin id) us) p') (hg : Gl X x) (hm : X.mg x = none) (hv : bootBuiltins x = some (.builtin id))
    (ha : PA X (e :: es) (gA X W f)) (hs : noStar (e :: es) = true) (hn : x ≠ "__name__") (hdb : (x == ("__debug__" : Str)) = false) : PE X (.Call (.Name x p) (e :: es) [] pos) (gE X W (callP p' f)) :=
  (pe_callB hc.call hg hm hv ha hn hdb (star_cons hs) (star_any (star_tail hs))).weak fun σ H Q h => tCB_of h
theorem ev_callTy {id : String} {p' : Pr} {x : Str} {p pos : Pos} {e : Expr} {es : List Expr} {f : Env → M (List Vl)} (hc : PrOk X (fun us => call (.type id) us) p') (hg : Gl X x) (hm : X.mg x = none) (hv : bootBuiltins x = some (.type id))
    (ha : PA X (e :: es) (gA X W f)) (hs : noStar (e :: es) = true) (hn : x ≠ "__name__") (hdb : (x == ("__debug__" : Str)) = false) : PE X (.Call (.Name x p) (e :: es) [] pos) (gE X W (callP p' f)) :=
  (pe_callTy hc.call hg hm hv ha hn hdb (star_cons hs) (star_any (star_tail hs))).weak fun σ H Q h => tCB_of h
theorem callD_run {glob : Str → Option GVal} {cl : Str → List Vl → M Vl} {es : List Expr} {e : Expr} {pos : Pos} {f : Env → M Vl} {g : Env → M (List Vl)} (tk : Takes X W) (gd : X.A.guards = some [])
    (fns : ∀ x i, glob x = some (.fn i) → ∃ (f : Addr) (fd : FuncData) (ps : List Str) (k : Nat), ps.length = i.n + i.kw.length ∧ X.mg x = some (.ref f) ∧ PySem.W.keepIn X.K (.ref f) = true ∧ (∀ ks ∈ i.sh, BindsK X.K fd ps i ks) ∧ Room k X.A ∧
      FnG X.prog X.w X.K X.mg X.base k f fd ps (spI X.K X.mg (cl x) (i.n + i.kw.length)))
    (ha : PA X (e :: es) (gA X W g)) (hs : noStar (e :: es) = true) {pins : List (Addr × Obj)} {s : Shared} {σ : L2.St} {H : Hp} {Q : VK} {μ : Mp} {ρ : Env} {st : Sto} {v : V} {a : Vl} {u : Value} (J : Inv X pins σ H s) (re : RE X.K X.mg μ H σ ρ) (S : RSt X.K μ H st) (ra : RV X.K X.mg μ H v a) (r : RelV v u)
    (h : Post X.K X.mg (RV X.K X.mg) μ H Q (fun cls d H' => W cls d σ H') (dyn glob cl (g ρ) a st)) :
    wpAny (model X.prog X.w) X.A (callWith pos u [] (backTo pos (starEach (e :: es) X.env)) (backToKw pos (keywordEach [] X.env))) (EP X pins σ Q) X.xe s := by
  cases a with
  | d x => exact h.elim
  | ref x => exact h.elim
  | ty x => exact h.elim
  | gl x =>
    cases ra with
    | gl hm =>
      cases r
      dsimp only [dyn] at h
      split at h
      · rename_i i hi
        split at h
        · rename_i hc
          simp only [Bool.and_eq_true, List.isEmpty_iff] at hc
          obtain ⟨a', fd, ps, k, e1, e2, e3, e4, e5, e6⟩ := fns x i hi
          rw [hm] at e2
          cases e2
          have bn := bindsK0 (e4 [] (by simpa using hc.2)) hc.1 e1
          rw [hc.1] at e6
          refine PySem.W.callWith_K (h₀ := X.base) J.ok.mod.kin e3 (thn (ha.run pos pins s σ H (fun vs H1 => spI X.K X.mg (cl x) i.n vs H1 Q (fun cls d H' => W cls d σ H')) J ?_) fun us s1 ⟨vs, H1, J1, r1, q1⟩ => ⟨J1.kIn, run_g (E := fun σ cls d H' => W cls d σ H') e6 e5 gd bn (passAt tk σ) J1 r1 q1⟩) (star_cons hs) (star_any (star_tail hs))
          exact gA.then re S h fun vs H1 as st1 μ1 re1 S1 ra g1 h1 => ⟨μ1, st1, as, ra, S1, h1⟩
        · exact h.elim
      · exact h.elim
theorem ev_callDn {glob : Str → Option GVal} {cl : Str → List Vl → M Vl} {x : Str} {p pos : Pos} {es : List Expr} {e : Expr} {f : Env → M Vl} {g : Env → M (List Vl)} (tk : Takes X W) (gd : X.A.guards = some [])
    (fns : ∀ x i, glob x = some (.fn i) → ∃ (f : Addr) (fd : FuncData) (ps : List Str) (k : Nat), ps.length = i.n + i.kw.length ∧ X.mg x = some (.ref f) ∧ PySem.W.keepIn X.K (.ref f) = true ∧ (∀ ks ∈ i.sh, BindsK X.K fd ps i ks) ∧ Room k X.A ∧
      FnG X.prog X.w X.K X.mg X.base k f fd ps (spI X.K X.mg (cl x) (i.n + i.kw.length)))
    (hf : PE X (.Name x p) (gE X W f)) (ha : PA X (e :: es) (gA X W g)) (hs : noStar (e :: es) = true) : PE X (.Call (.Name x p) (e :: es) [] pos) (gE X W (callD glob cl f g)) := by
  refine ⟨fun pins s σ H Q I h => ?_⟩
  obtain ⟨μ, ρ, st, re, S, h⟩ := h
  refine wpAny_Call_Name_kw (thn (hf.run pins s σ H _ I (gE.then (Q1 := fun v H1 => ∃ a st1 μ1, RE X.K X.mg μ1 H1 σ ρ ∧ RSt X.K μ1 H1 st1 ∧ RV X.K X.mg μ1 H1 v a ∧ Post X.K X.mg (RV X.K X.mg) μ1 H1 Q (fun cls d H' => W cls d σ H') (dyn glob cl (g ρ) a st1)) (β := Unit) re S h fun v H1 a st1 μ1 re1 S1 ra g1 h1 => ⟨a, st1, μ1, re1, S1, ra, h1⟩)) fun u s1 ⟨v, H1, I1, r1, a, st1, μ1, re1, S1, ra, h1⟩ => ?_)
  exact callD_run (f := f) tk gd fns ha hs I1 re1 S1 ra r1 h1
theorem ev_callDs {glob : Str → Option GVal} {cl : Str → List Vl → M Vl} {o j : Expr} {p pos : Pos} {es : List Expr} {e : Expr} {f : Env → M Vl} {g : Env → M (List Vl)} (tk : Takes X W) (gd : X.A.guards = some [])
    (fns : ∀ x i, glob x = some (.fn i) → ∃ (f : Addr) (fd : FuncData) (ps : List Str) (k : Nat), ps.length = i.n + i.kw.length ∧ X.mg x = some (.ref f) ∧ PySem.W.keepIn X.K (.ref f) = true ∧ (∀ ks ∈ i.sh, BindsK X.K fd ps i ks) ∧ Room k X.A ∧
      FnG X.prog X.w X.K X.mg X.base k f fd ps (spI X.K X.mg (cl x) (i.n + i.kw.length)))
    (hf : PE X (.Subscript o j p) (gE X W f)) (ha : PA X (e :: es) (gA X W g)) (hs : noStar (e :: es) = true) : PE X (.Call (.Subscript o j p) (e :: es) [] pos) (gE X W (callD glob cl f g)) := by
  refine ⟨fun pins s σ H Q I h => ?_⟩
  obtain ⟨μ, ρ, st, re, S, h⟩ := h
  refine Call_ (func := .Subscript o j p) (thn (hf.run pins s σ H _ I (gE.then (Q1 := fun v H1 => ∃ a st1 μ1, RE X.K X.mg μ1 H1 σ ρ ∧ RSt X.K μ1 H1 st1 ∧ RV X.K X.mg μ1 H1 v a ∧ Post X.K X.mg (RV X.K X.mg) μ1 H1 Q (fun cls d H' => W cls d σ H') (dyn glob cl (g ρ) a st1)) (β := Unit) re S h fun v H1 a st1 μ1 re1 S1 ra g1 h1 => ⟨a, st1, μ1, re1, S1, ra, h1⟩)) fun u s1 ⟨v, H1, I1, r1, a, st1, μ1, re1, S1, ra, h1⟩ => ?_) rfl
  exact callD_run (f := f) tk gd fns ha hs I1 re1 S1 ra r1 h1
/-! ### a dict of the module -/
abbrev DcOk (X : Cx) (D : Str) (kvs : List (Str × DV)) : Prop := ∃ (d : Addr) (es : Array DictEntry) (n : Nat), X.mg D = some (.ref d) ∧ KDict X.K X.w d es n ∧
    (∀ z dv, kvs.lookup z = some dv → ∃ u v, PySem.W.nsIn X.K d z = some (some u) ∧ RelV v u ∧ ∀ μ H, RV X.K X.mg μ H v dv.vl) ∧ (∀ z, kvs.lookup z = none → PySem.W.nsIn X.K d z = some none) ∧ es.toList.map He.keyOf = He.keysIn X.w.params (kvs.map (·.1))
def pInD2 (neg : Bool) (D : Str) (kvs : List (Str × DV)) : P2
  | .d (.str z), .gl y => fun st => if y = D then some (.d (.bool (neg ^^ (kvs.lookup z).isSome)), st) else none
  | _, _ => fun _ => none
def pIxD2 (D : Str) (kvs : List (Str × DV)) : P2
  | .gl y, .d (.str z) => fun st => if y = D then (kvs.lookup z).map fun v => (v.vl, st) else none
  | _, _ => fun _ => none
theorem inD_of {D : Str} {kvs : List (Str × DV)} {d : Addr} (h1 : ∀ z dv, kvs.lookup z = some dv → ∃ u v, PySem.W.nsIn X.K d z = some (some u) ∧ RelV v u ∧ ∀ μ H, RV X.K X.mg μ H v dv.vl) (h2 : ∀ z, kvs.lookup z = none → PySem.W.nsIn X.K d z = some none) (z : Str) :
    ∃ r : Option Value, PySem.W.nsIn X.K d z = some r ∧ r.isSome = (kvs.lookup z).isSome := by
  cases e : kvs.lookup z with
  | none => exact ⟨none, h2 z e, rfl⟩
  | some dv => obtain ⟨u, v, e1, _⟩ := h1 z dv e; exact ⟨some u, e1, rfl⟩
theorem ok_inD {D : Str} {kvs : List (Str × DV)} (h : DcOk X D kvs) : PrOk X (f2 (compareOp .In)) (l2 (pInD2 false D kvs)) := by
  obtain ⟨d, es, n, hm, kd, h1, h2, _⟩ := h
  refine pr_op (op_in_kd kd) fun H x y μ st a b res ra rb S e => ?_
  unfold pInD2 at e
  split at e
  · rename_i z y'
    split at e
    · rename_i hy
      subst hy
      cases e
      cases ra with | d ra => cases ra with | str _ =>
      cases rb with | gl hb =>
      rw [hm] at hb
      cases hb
      obtain ⟨r, e1, e2⟩ := inD_of (D := y') h1 h2 z
      refine ⟨z, r, rfl, rfl, e1, ?_⟩
      rw [e2]
      exact stayV S (by simpa using (RV.d (.bl _)))
    · cases e
  · cases e
theorem ok_notinD {D : Str} {kvs : List (Str × DV)} (h : DcOk X D kvs) : PrOk X (f2 (compareOp .NotIn)) (l2 (pInD2 true D kvs)) := by
  obtain ⟨d, es, n, hm, kd, h1, h2, _⟩ := h
  refine pr_op (op_notIn_kd kd) fun H x y μ st a b res ra rb S e => ?_
  unfold pInD2 at e
  split at e
  · rename_i z y'
    split at e
    · rename_i hy
      subst hy
      cases e
      cases ra with | d ra => cases ra with | str _ =>
      cases rb with | gl hb =>
      rw [hm] at hb
      cases hb
      obtain ⟨r, e1, e2⟩ := inD_of (D := y') h1 h2 z
      refine ⟨z, r, rfl, rfl, e1, ?_⟩
      rw [e2]
      exact stayV S (by simpa using (RV.d (.bl _)))
    · cases e
  · cases e
theorem rx_ixD {D : Str} {kvs : List (Str × DV)} (h : DcOk X D kvs) : IxR X (rP X (pIxD2 D kvs)) := by
  intro value slice pins s σ H x y v u Q I rx ry ⟨μ, st, a, b, r, ra, rb, S, e, q⟩ hs
  obtain ⟨d, es, n, hm, kd, h1, h2, _⟩ := h
  refine ix_kdict value slice pins s σ H x y v u Q I rx ry ?_ hs
  unfold pIxD2 at e
  split at e
  · rename_i y' z
    split at e
    · rename_i hy
      subst hy
      cases e1 : kvs.lookup z with
      | none => rw [e1] at e; cases e
      | some dv =>
        rw [e1] at e
        cases e
        cases rb with | d rb => cases rb with | str _ =>
        cases ra with | gl hb =>
        rw [hm] at hb
        cases hb
        obtain ⟨u0, v0, e2, e3, e4⟩ := h1 z dv e1
        exact ⟨d, z, v0, rfl, rfl, ⟨es, n, u0, kd.at_, kd.lit, e2, e3⟩, q v0 H μ (Grow.refl _ _) S (e4 μ H)⟩
    · cases e
  · cases e
theorem ev_ixD {D : Str} {kvs : List (Str × DV)} {a b : Expr} {f g : Env → M Vl} {pos : Pos} (h : DcOk X D kvs) (ha : PE X a (gE X W f)) (hb : PE X b (gE X W g)) (hs : PlainIx b) : PE X (.Subscript a b pos) (gE X W (bin (pIxD2 D kvs) f g)) :=
  (pe_ix (rx_ixD h) ha hb hs).weak fun σ H Q h => tOp_of h
end
end Iv
set_option Elab.async false
set_option linter.all false
set_option maxRecDepth 100000
set_option maxHeartbeats 4000000
/-! Iv7: what is walked; targets; comprehensions. -/
namespace Iv
open PySem PySem.Spec PyProof.Rows L2
/-- what is walked: how many turns at most, what comes at turn i -/
structure Wk where
  n : Nat
  nx : Nat → Sto → Option (Option PyData)
section
variable {X : Cx} {W : WX}
def RJ (X : Cx) (it : Wk) (J : It) (μ1 : Mp) (H1 : Hp) : Prop := ∀ (μ : Mp) (H : Hp) (st : Sto), Kp μ1 H1 μ H → RSt X.K μ H st → ∀ i,
  (it.nx i st = some none → J.stop i H) ∧ ∀ d, it.nx i st = some (some d) → J.go i H ∧ ∀ x H2, J.yld i H x H2 → ∃ μ2, Grow μ H μ2 H2 ∧ RSt X.K μ2 H2 st ∧ RP X.K μ2 H2 x d
def RIt (X : Cx) : Rl It Wk := fun μ H J it => RJ X it J μ H
def gI (X : Cx) (W : WX) (m : Env → M Wk) : TI := fun σ H R => ∃ (μ : Mp) (ρ : Env) (st : Sto), RE X.K X.mg μ H σ ρ ∧ RSt X.K μ H st ∧ Post X.K X.mg (RIt X) μ H R (fun cls d H' => W cls d σ H') (m ρ st)
theorem _root_.L2.PI.weak {tg e : Expr} {t t' : TI} (h : PI X tg e t) (w : ∀ σ H R, t' σ H R → t σ H R) : PI X tg e t' := ⟨fun pins s σ H R I q => h.run pins s σ H R I (w σ H R q)⟩
def itOf (st : Sto) : Vl → Option Wk
  | .d (.str x) => some ⟨x.cps.size, fun i _ => some ((x.cps[i]?).map fun c => .str ⟨#[c]⟩)⟩
  | a => (asQ st a).map fun xs => ⟨xs.length, fun i st => (asQ st a).map fun xs => xs[i]?⟩
def itM (a : Vl) : M Wk := fun st => match itOf st a with
  | some it => .ok it st
  | none => .bad
def itV (f : Env → M Vl) : Env → M Wk := fun ρ => M.bind (f ρ) itM
/-- list, tuple or text, as it comes -/
def iAny (K : PySem.W.Frag) (tl : TE) : TI := fun σ H R => tl σ H fun x H1 => (∃ a xs, x = .ref a ∧ SqL K H1 a xs ∧ R (Itl K a) H1) ∨ (∃ a xs, x = .ref a ∧ SqT K H1 a xs ∧ R (Itt K a) H1) ∨ ∃ z, x = .str z ∧ R (Its z) H1
theorem pi_any {tg l : Expr} {tl : TE} (hl : PE X l tl) : PI X tg l (iAny X.K tl) := by
  refine ⟨fun pins s σ H R I h => ?_⟩
  refine thn (hl.run pins s σ H _ I h) fun v s1 ⟨x, H1, I1, r1, q1⟩ => ?_
  rcases q1 with ⟨a, xs, e, hq, q⟩ | ⟨a, xs, e, hq, q⟩ | ⟨z, e, q⟩
  · subst e
    cases r1
    obtain ⟨its, rv, p, hz⟩ := I1.list hq
    refine wpAny_pyIter_list p.isList ?_
    refine ⟨s1.heap.objs.size, [s1.heap.objs.size], _, _, H1, rfl, I1.kept (t' := s1.toks) fun b o e => Heap.get?_push_of_some _ e, turn_list a _, ⟨_, Heap.get?_push_size _ rfl, rfl, rfl⟩, fun b hb => ?_, q⟩
    have e : b = s1.heap.objs.size := by simpa using hb
    subst e
    exact I1.fpOk (Nat.le_refl _) (I1.hok.fresh (Nat.le_refl _))
  · subst e
    cases r1
    obtain ⟨its, rv, p, hz⟩ := I1.tuple hq
    refine wpAny_pyIter_tuple (show s1.heap.IsTuple a its.toArray from p) ?_
    refine ⟨s1.heap.objs.size, [s1.heap.objs.size], _, _, H1, rfl, I1.kept (t' := s1.toks) fun b o e => Heap.get?_push_of_some _ e, turn_tuple a _, ⟨_, Heap.get?_push_size _ rfl, rfl, rfl⟩, fun b hb => ?_, q⟩
    have e : b = s1.heap.objs.size := by simpa using hb
    subst e
    exact I1.fpOk (Nat.le_refl _) (I1.hok.fresh (Nat.le_refl _))
  · subst e
    obtain ⟨t, rfl⟩ := r1
    cases ha : z.cps.all (· < 128)
    · exact wpAny_pyIter_wide ha (pi_one (tk := s1.toks) I1 _ (turn_str _ z t "str_iterator" (.inr rfl)) ⟨_, Heap.get?_push_size _ rfl, rfl, rfl⟩ q)
    · exact wpAny_pyIter_ascii ha (pi_one (tk := s1.toks) I1 _ (turn_str _ z t "str_ascii_iterator" (.inl rfl)) ⟨_, Heap.get?_push_size _ rfl, rfl, rfl⟩ q)
theorem rj_seq {μ1 : Mp} {H1 : Hp} {p : Addr} {a : Vl} {n : Nat} (r : RV X.K X.mg μ1 H1 (.ref p) a) :
    (asT a = none → RJ X ⟨n, fun i st => (asQ st a).map fun xs => xs[i]?⟩ (Itl X.K p) μ1 H1) ∧ (∀ ys, asT a = some ys → RJ X ⟨n, fun i st => (asQ st a).map fun xs => xs[i]?⟩ (Itt X.K p) μ1 H1) := by
  have len : ∀ {K : PySem.W.Frag} {μ : Mp} {H : Hp} {vs : List V} {ds : List PyData} {i : Nat}, RPs K μ H vs ds → ds[i]? = none → vs.length ≤ i := fun r e => by
    rw [r.length]; exact List.getElem?_eq_none_iff.mp e
  constructor
  · intro hn μ H st kp S i
    have r' := r.kp kp
    constructor
    · intro e
      cases e1 : asL st a with
      | none => simp [asQ, hn, e1] at e
      | some xs =>
        obtain ⟨q, vs, e2, h, r1⟩ := asL_rd S r' e1
        cases e2
        simp [asQ, hn, e1] at e
        exact ⟨vs, h, by rw [r1.length]; exact e⟩
    · intro d e
      cases e1 : asL st a with
      | none => simp [asQ, hn, e1] at e
      | some xs =>
        obtain ⟨q, vs, e2, h, r1⟩ := asL_rd S r' e1
        cases e2
        have e3 : xs[i]? = some d := by simpa [asQ, hn, e1] using e
        obtain ⟨v, h3, h4⟩ := r1.get e3
        refine ⟨⟨vs, v, h, h3⟩, fun x H2 ⟨hh, hx⟩ => ?_⟩
        subst hh
        have := hx vs h
        rw [h3] at this
        cases this
        exact ⟨μ, Grow.refl _ _, S, h4⟩
  · intro ys hn μ H st kp S i
    have r' := r.kp kp
    obtain ⟨q, vs, e2, h, r1⟩ := asT_rd r' hn
    cases e2
    constructor
    · intro e
      simp [asQ, hn] at e
      exact ⟨vs, h, by rw [r1.length]; exact e⟩
    · intro d e
      have e3 : ys[i]? = some d := by simpa [asQ, hn] using e
      obtain ⟨v, h3, h4⟩ := r1.get e3
      refine ⟨⟨vs, v, h, h3⟩, fun x H2 ⟨hh, hx⟩ => ?_⟩
      subst hh
      have := hx vs h
      rw [h3] at this
      cases this
      exact ⟨μ, Grow.refl _ _, S, h4⟩
theorem ei_val {tg e : Expr} {f : Env → M Vl} (he : PE X e (gE X W f)) : PI X tg e (gI X W (itV f)) :=
  (pi_any he).weak fun σ H R ⟨μ, ρ, st, re, S, h⟩ => gE.then (β := Unit) re S h fun v H1 a st1 μ1 re1 S1 ra g1 h1 => by
    simp only [itM] at h1
    have sq : ∀ (xs : List PyData), asQ st1 a = some xs → Post X.K X.mg (RIt X) μ1 H1 R (fun cls d H' => W cls d σ H') (.ok ⟨xs.length, fun i st => (asQ st a).map fun xs => xs[i]?⟩ st1) →
        (∃ b xs, v = .ref b ∧ SqL X.K H1 b xs ∧ R (Itl X.K b) H1) ∨ (∃ b xs, v = .ref b ∧ SqT X.K H1 b xs ∧ R (Itt X.K b) H1) ∨ ∃ z, v = .str z ∧ R (Its z) H1 := by
      intro xs e1 h1
      cases e2 : asT a with
      | none =>
        have e3 : asL st1 a = some xs := by simpa [asQ, e2] using e1
        obtain ⟨p, vs, rfl, hp, r1⟩ := asL_rd S1 ra e3
        exact .inl ⟨p, vs, rfl, hp, h1.here S1 ((rj_seq ra).1 e2)⟩
      | some ys =>
        obtain ⟨p, vs, rfl, hp, r1⟩ := asT_rd ra e2
        exact .inr (.inl ⟨p, vs, rfl, hp, h1.here S1 ((rj_seq ra).2 ys e2)⟩)
    cases e1 : itOf st1 a with
    | none => rw [e1] at h1; exact h1.elim
    | some it =>
      rw [e1] at h1
      unfold itOf at e1
      split at e1
      · rename_i z
        cases e1
        cases ra with
        | d ra =>
          cases ra
          refine .inr (.inr ⟨z, rfl, h1.here S1 ?_⟩)
          intro μ' H' st' kp S' i
          constructor
          · intro e
            simp only [Option.some.injEq, Option.map_eq_none_iff] at e
            exact Array.getElem?_eq_none_iff.mp e
          · intro d e
            simp only [Option.some.injEq, Option.map_eq_some_iff] at e
            obtain ⟨c, hc, rfl⟩ := e
            refine ⟨(Array.getElem?_eq_some_iff.mp hc).1, fun x H2 ⟨hh, c', hc', hx⟩ => ?_⟩
            subst hh
            rw [hc] at hc'
            cases hc'
            subst hx
            exact ⟨μ', Grow.refl _ _, S', .str _⟩
      · cases e2 : asQ st1 a with
        | none => rw [e2] at e1; cases e1
        | some xs =>
          rw [e2] at e1
          cases e1
          exact sq xs e2 h1
/-- range(j), range(i, j) -/
def rngIt (lo : Int) (n : Nat) : Wk := ⟨n, fun i _ => some (if i < n then some (.int (lo + i)) else none)⟩
@[irreducible] def rng1 : Vl → M Wk
  | .d (.int j) => if -4611686018427387904 ≤ j ∧ j < 4611686018427387904 then ret (rngIt 0 j.toNat) else nope
  | _ => nope
@[irreducible] def rng2 : Vl → Vl → M Wk
  | .d (.int i), .d (.int j) => if -4611686018427387904 ≤ i ∧ i < 4611686018427387904 ∧ -4611686018427387904 ≤ j ∧ j < 4611686018427387904 then ret (rngIt i (j - i).toNat) else nope
  | _, _ => nope
def itR1 (f : Env → M Vl) : Env → M Wk := fun ρ => M.bind (f ρ) rng1
def itR2 (f g : Env → M Vl) : Env → M Wk := fun ρ => M.bind (f ρ) fun a => M.bind (g ρ) fun b => rng2 a b
theorem rj_rng {lo : Int} {n : Nat} {μ1 : Mp} {H1 : Hp} : RJ X (rngIt lo n) (L2.Itr lo n) μ1 H1 := by
  intro μ H st _ S i
  constructor
  · intro e
    simp only [rngIt, Option.some.injEq, ite_eq_right_iff, reduceCtorEq, imp_false] at e
    exact Nat.le_of_not_lt e
  · intro d e
    simp only [rngIt, Option.some.injEq] at e
    split at e
    · rename_i h
      cases e
      refine ⟨h, fun x H2 ⟨hh, hx⟩ => ?_⟩
      subst hh
      subst hx
      exact ⟨μ, Grow.refl _ _, S, .int _⟩
    · cases e
theorem ei_rng1 {tg a : Expr} {f : Env → M Vl} {p pos : Pos} (hg : Gl X "range") (hm : X.mg "range" = none) (ha : PE X a (gE X W f)) (hs : noStar [a] = true) :
    PI X tg (.Call (.Name "range" p) [a] [] pos) (gI X W (itR1 f)) :=
  (pi_range1 hg hm (pa_cons ha pa_nil (star_cons hs)) (star_cons hs)).weak fun σ H R ⟨μ, ρ, st, re, S, h⟩ => gE.then (β := Unit) re S h fun v H1 a st1 μ1 re1 S1 ra g1 h1 => by
    unfold rng1 at h1
    split at h1
    · rename_i j
      split at h1
      · rename_i hj
        cases ra with | d r1 => cases r1; exact ⟨j, rfl, by omega, by omega, h1.here S1 rj_rng⟩
      · exact h1.elim
    · exact h1.elim
theorem ei_rng2 {tg a b : Expr} {f g : Env → M Vl} {p pos : Pos} (hg : Gl X "range") (hm : X.mg "range" = none) (ha : PE X a (gE X W f)) (hb : PE X b (gE X W g)) (hs : noStar [a, b] = true) :
    PI X tg (.Call (.Name "range" p) [a, b] [] pos) (gI X W (itR2 f g)) :=
  (pi_range2 hg hm (pa_cons ha (pa_cons hb pa_nil (star_cons (star_tail hs))) (star_cons hs)) (by rw [star_cons hs, star_cons (star_tail hs)]; rfl) (star_cons (star_tail hs))).weak fun σ H R ⟨μ, ρ, st, re, S, h⟩ =>
    gE.then (β := Unit) re S h fun v H1 a st1 μ1 re1 S1 ra g1 h1 => gE.then (β := Unit) re1 S1 h1 fun w H2 b st2 μ2 re2 S2 rb g2 h2 => by
    unfold rng2 at h2
    split at h2
    · rename_i i j
      split at h2
      · rename_i hj
        cases ra with | d r1 => cases r1; cases rb with | d r2 => cases r2; exact ⟨i, j, rfl, ⟨by omega, by omega, by omega, by omega⟩, h2.here S2 rj_rng⟩
      · exact h2.elim
    · exact h2.elim

/-! ### targets -/
abbrev Asg := PyData → Env → Option Env
def gG (X : Cx) (m : Asg) (T : List Nat) : TG := fun v σ H Q => ∃ (μ : Mp) (ρ : Env) (d : PyData) (ρ' : Env), RE X.K X.mg μ H σ ρ ∧ RP X.K μ H v d ∧ m d ρ = some ρ' ∧
  ∀ σ', RE X.K X.mg μ H σ' ρ' → σ'.length = σ.length → (∀ i, i ∉ T → σ'[i]? = σ[i]?) → Q σ' H
def gGs (X : Cx) (m : List PyData → Env → Option Env) (T : List Nat) : TGs := fun vs σ H Q => ∃ (μ : Mp) (ρ : Env) (ds : List PyData) (ρ' : Env), RE X.K X.mg μ H σ ρ ∧ RPs X.K μ H vs ds ∧ m ds ρ = some ρ' ∧
  ∀ σ', RE X.K X.mg μ H σ' ρ' → σ'.length = σ.length → (∀ i, i ∉ T → σ'[i]? = σ[i]?) → Q σ' H
theorem _root_.L2.PG.weak {e : Expr} {t t' : TG} (h : PG X e t) (w : ∀ v σ H Q, t' v σ H Q → t v σ H Q) : PG X e t' := ⟨fun pins s σ H v u Q I r q => h.run pins s σ H v u Q I r (w v σ H Q q)⟩
theorem _root_.L2.PGs.weak {e : List Expr} {t t' : TGs} (h : PGs X e t) (w : ∀ v σ H Q, t' v σ H Q → t v σ H Q) : PGs X e t' := ⟨fun pins s σ H v u Q I r q => h.run pins s σ H v u Q I r (w v σ H Q q)⟩
theorem RE.set {K : PySem.W.Frag} {mg : Str → Option Value} {μ : Mp} {H : Hp} {σ : L2.St} {ρ : Env} (h : RE K mg μ H σ ρ) {v : V} {x : Vl} (r : RV K mg μ H v x) (i : Nat) : RE K mg μ H (σ.set i (some v)) (ρ.set i (some x)) := by
  refine ⟨by simp [h.len], fun j y e => ?_⟩
  by_cases q : i = j
  · subst q
    by_cases hl : i < ρ.length
    · rw [List.getElem?_set_self hl] at e
      cases e
      exact ⟨v, List.getElem?_set_self (by rw [← h.len]; exact hl), r⟩
    · have := (List.getElem?_eq_some_iff.mp e).1
      simp at this; omega
  · rw [List.getElem?_set_ne q] at e
    rw [List.getElem?_set_ne q]
    exact h.at_ j y e
def aName (i : Nat) : Asg := fun d ρ => some (ρ.set i (some (.d d)))
theorem eg_name {i : Nat} {x : Str} {pos : Pos} (hN : X.N.Nodup) (hi : X.N[i]? = some x) (hx : Loc X.env.scope x) (hf : X.fn x = true ∨ X.env.scope.names.lookup x = some .local) : PG X (.Name x pos) (gG X (aName i) [i]) :=
  (pg_name hN hi hx hf).weak fun v σ H Q ⟨μ, ρ, d, ρ', re, r, e, q⟩ => by
    cases e
    exact q _ (re.set (.d r) i) (by simp) fun j hj => List.getElem?_set_ne (by intro z; exact hj (by simp [z]))
def aNil : List PyData → Env → Option Env
  | [], ρ => some ρ
  | _ :: _, _ => none
def aCons (m : Asg) (ms : List PyData → Env → Option Env) : List PyData → Env → Option Env
  | [], _ => none
  | d :: ds, ρ => (m d ρ).bind (ms ds)
theorem eg_nil : PGs X [] (gGs X aNil []) := pgs_nil.weak fun vs σ H Q ⟨μ, ρ, ds, ρ', re, r, e, q⟩ => by
  cases r with
  | nil => cases e; exact ⟨rfl, q _ re rfl fun _ _ => rfl⟩
  | cons _ _ => cases e
theorem eg_cons {e : Expr} {es : List Expr} {m : Asg} {ms : List PyData → Env → Option Env} {T T' : List Nat} (h1 : PG X e (gG X m T)) (h2 : PGs X es (gGs X ms T'))
    (hs : (assignEach (e :: es) X.env).map (·.2) = assign e X.env :: (assignEach es X.env).map (·.2)) : PGs X (e :: es) (gGs X (aCons m ms) (T ++ T')) :=
  (pgs_cons h1 h2 hs).weak fun vs σ H Q ⟨μ, ρ, ds, ρ', re, r, e, q⟩ => by
    cases r with
    | nil => cases e
    | @cons v vs d ds r rs =>
      simp only [aCons] at e
      cases e1 : m d ρ with
      | none => rw [e1] at e; cases e
      | some ρ1 =>
        rw [e1] at e
        refine ⟨v, vs, rfl, μ, ρ, d, ρ1, re, r, e1, fun σ1 re1 l1 k1 => ⟨μ, ρ1, ds, ρ', re1, rs, e, fun σ2 re2 l2 k2 => q σ2 re2 (l2.trans l1) fun i hi => ?_⟩⟩
        rw [k2 i (fun z => hi (List.mem_append_right _ z)), k1 i (fun z => hi (List.mem_append_left _ z))]
def aTup (n : Nat) (ms : List PyData → Env → Option Env) : Asg := fun d ρ => match d with
  | .tuple ds => if ds.length = n then ms ds ρ else none
  | .list ds => if ds.length = n then ms ds ρ else none
  | _ => none
theorem _root_.L2.PG.or {e : Expr} {t t' : TG} (h : PG X e t) (h' : PG X e t') : PG X e (fun v σ H Q => t v σ H Q ∨ t' v σ H Q) := ⟨fun pins s σ H v u Q I r q => q.elim (h.run pins s σ H v u Q I r) (h'.run pins s σ H v u Q I r)⟩
theorem eg_tup {es : List Expr} {k n : Nat} {pos : Pos} {ms : List PyData → Env → Option Env} {T : List Nat} (hc : X.calm = true) (h : PGs X es (gGs X ms T)) (hn : (assignEach es X.env).length = n) (hst : (assignEach es X.env).findIdx? (·.1) = none) :
    PG X (.Tuple es k pos) (gG X (aTup n ms) T) :=
  ((pg_tup hc h hn hst).or (pg_lst hc h hn hst)).weak fun v σ H Q ⟨μ, ρ, d, ρ', re, r, e, q⟩ => by
    unfold aTup at e
    split at e
    · rename_i ds
      split at e
      · rename_i hl
        cases r with | tup ht rs => exact .inl ⟨_, _, rfl, ht.sq, by rw [rs.length]; exact hl, μ, ρ, ds, ρ', re, rs, e, q⟩
      · cases e
    · rename_i ds
      split at e
      · rename_i hl
        cases r with | lst ht rs => exact .inr ⟨_, _, rfl, ht.sq, by rw [rs.length]; exact hl, μ, ρ, ds, ρ', re, rs, e, q⟩
      · cases e
    · cases e
end
end Iv
set_option Elab.async false
set_option linter.all false
set_option maxRecDepth 100000
set_option maxHeartbeats 8000000
/-! Iv7b: enumerate, zip over lists and tuples in any mix. -/
namespace Iv
open PySem PySem.Spec PyProof.Rows L2
/-! ### a list or a tuple -/
def sqB (b : Bool) (K : PySem.W.Frag) (H : Hp) (a : Addr) (xs : List V) : Prop := match b with
  | true => SqL K H a xs
  | false => SqT K H a xs
def itB (b : Bool) (h : Heap) (it a : Addr) (i : Nat) : Prop := match b with
  | true => h.IsListIter it a i
  | false => h.IsTupleIter it a i
def isB (b : Bool) (h : Heap) (a : Addr) (its : Array Value) : Prop := match b with
  | true => h.IsList a its
  | false => h.IsTuple a its
def itObj (b : Bool) (a : Addr) : Obj := match b with
  | true => { cls := .type "list_iterator", data := .fields #[.ref a, .int 0 0] }
  | false => { cls := .type "tuple_iterator", data := .fields #[.ref a, .int 0 0] }
section
variable {X : Cx} {pins : List (Addr × Obj)} {σ : L2.St} {H : Hp} {s : Shared}
theorem sqB_inv {b : Bool} {a : Addr} {xs : List V} (I : Inv X pins σ H s) (h : sqB b X.K H a xs) : ∃ its, Vals xs its ∧ isB b s.heap a its.toArray := by
  cases b with
  | true => obtain ⟨its, rv, p, _⟩ := I.list h; exact ⟨its, rv, p.isList⟩
  | false => obtain ⟨its, rv, p, _⟩ := I.tuple h; exact ⟨its, rv, p⟩
theorem sqB_inj {b : Bool} {a : Addr} {xs ys : List V} (I : Inv X pins σ H s) (h : sqB b X.K H a xs) (h' : sqB b X.K H a ys) : xs = ys := by
  cases b with
  | true => exact I.list_inj h h'
  | false => exact I.tuple_inj h h'
end
theorem isB_get {b : Bool} {h : Heap} {a : Addr} {its : Array Value} (p : isB b h a its) : ∃ o, h.get? a = some o := by
  cases b with
  | true => obtain ⟨o, e, _⟩ := p; exact ⟨o, e⟩
  | false => obtain ⟨o, e, _⟩ := p; exact ⟨o, e⟩
theorem itB_get {b : Bool} {h : Heap} {it a : Addr} {i : Nat} (p : itB b h it a i) : ∃ o, h.get? it = some o ∧ ∀ v, o.data ≠ .cell v := by
  cases b with
  | true => obtain ⟨o, e, _, d⟩ := p; exact ⟨o, e, fun v q => by rw [d] at q; cases q⟩
  | false => obtain ⟨o, e, _, d⟩ := p; exact ⟨o, e, fun v q => by rw [d] at q; cases q⟩
theorem itB_at {b : Bool} {h h' : Heap} {it a : Addr} {i : Nat} (p : itB b h it a i) (k : ∀ o, h.get? it = some o → h'.get? it = some o) : itB b h' it a i := by
  cases b with
  | true => exact Heap.IsListIter.at p k
  | false => exact Heap.IsTupleIter.at p k
theorem itB_new {b : Bool} {h : Heap} {it a : Addr} (p : h.get? it = some (itObj b a)) : itB b h it a 0 := by
  cases b with
  | true => exact ⟨_, p, rfl, rfl⟩
  | false => exact ⟨_, p, rfl, rfl⟩
theorem drawsB {prog : Program} {w : World} {A : Around} (hh : A.handled = none) (b : Bool) (it a : Addr) (hne : a ≠ it) (its : Array Value) :
    Draws prog w A it [it, a] its.size (fun i v => its[i]? = some v) (fun i h => itB b h it a i ∧ isB b h a its) := by
  cases b with
  | true => exact Draws.list hh it a hne its
  | false => exact Draws.tuple hh it a hne its
theorem beginsB (b : Bool) (a : Addr) (its : Array Value) : Begins (.ref a) (itObj b a) fun h => isB b h a its := by
  cases b with
  | true => exact begins_list a its
  | false => exact begins_tuple a its
/-! ### enumerate -/
def IteB (b : Bool) (K : PySem.W.Frag) (a : Addr) : It :=
  ⟨fun i H => ∃ (xs : List V) (x : V), sqB b K H a xs ∧ xs[i]? = some x, fun i H v H' => ∃ T x, v = .ref T ∧ H T = none ∧ H' = upd H T (.tup [.int (i : Nat), x]) ∧ ∀ xs, sqB b K H a xs → xs[i]? = some x, fun i H => ∃ xs : List V, sqB b K H a xs ∧ xs.length = i⟩
theorem turn_enumB {P : Program} {w : World} {K : PySem.W.Frag} {elts : List Expr} {kk : Nat} {tpos : Pos} (b : Bool) (a e it : Addr) (n1 : e ≠ it) (n2 : a ≠ it) (n3 : a ≠ e) :
    Turn P w K (.Tuple elts kk tpos) (IteB b K a) [e, it] e (fun i h => (∃ old, IsEnum h e it ((i : Nat) : Int) old) ∧ itB b h it a i) where
  mem := by simp
  obj := fun i h st c hc => by
    obtain ⟨⟨old, he⟩, hi⟩ := st
    have e' : c = e ∨ c = it := by simpa using hc
    rcases e' with rfl | rfl
    · exact ⟨_, he, fun v q => nomatch q⟩
    · exact itB_get hi
  keep := fun i h h' st k => let ⟨⟨old, he⟩, hi⟩ := st; ⟨⟨old, k e (by simp) _ he⟩, itB_at hi fun o q => k it (by simp) o q⟩
  item := by
    intro X hP hw hK hc i pins s σ H E I hf st hg
    subst hP hw hK
    obtain ⟨⟨old, he⟩, hit⟩ := st
    obtain ⟨xs, x, hq, hx⟩ := hg
    obtain ⟨its, rv, p⟩ := sqB_inv I hq
    obtain ⟨u, hu, ru⟩ := rv.get hx
    have hel : e < s.heap.objs.size := Heap.lt_size he
    have hil : it < s.heap.objs.size := by obtain ⟨_, q, _⟩ := itB_get hit; exact Heap.lt_size q
    have hlt : i < its.toArray.size := by have := (List.getElem?_eq_some_iff.mp hu).1; simpa using this
    refine wpAny_pyNext_enum_itemD (drawsB (A := X.A.in1) (I.ok.hd hc) b it a n2 its.toArray) he ⟨hit, p⟩ hlt n1 (by intro m; rcases List.mem_cons.mp m with q | m; exact n1 q; exact n3 (List.mem_singleton.mp m).symm) fun y h' tk hy ho hit' hT hsz hk => ?_
    have ey : y = u := by
      have : its.toArray[i]? = some u := by simpa using hu
      rw [this] at hy; exact (Option.some.inj hy).symm
    subst ey
    refine ⟨_, rfl, wpAny_letOwnedTupleGo_enum (s := { s with heap := h', toks := tk + 1 }) ho fun h'' he' sb => ?_⟩
    have hT2 : h''.get? s.heap.objs.size = some { cls := .type "tuple", data := .seq #[.int i tk, y] } := (sb.2 _ (Nat.ne_of_gt hel)).trans hT
    have new : ObjOk X.prog X.w (upd H s.heap.objs.size (.tup [.int (i : Nat), x])) h'' s.heap.objs.size (.tup [.int (i : Nat), x]) :=
      ⟨by show 2 ≤ sizeLine; decide, [.int i tk, y], .cons ⟨_, rfl⟩ (.cons ru .nil), ⟨_, hT2, rfl, _, rfl⟩⟩
    have I1 : Inv X pins σ (upd H s.heap.objs.size (.tup [.int (i : Nat), x])) { s with heap := h'', toks := tk + 1 } :=
      I.turnedNew (t' := tk + 1) (ch := [e, it]) (fun c ob hb q => (sb.2 c (fun z => hb (by simp [z]))).trans (hk c ob (fun z => hb (by simp [z])) (fun z => hb (by simp [z])) q)) hf (Nat.le_refl _) new
    refine ⟨.ref s.heap.objs.size, _, I1, rfl, ⟨_, x, rfl, I.hok.fresh (Nat.le_refl _), rfl, fun ys hy => by rw [sqB_inj I hy hq]; exact hx⟩, ⟨⟨y, ?_⟩, itB_at hit'.1 fun o q => (sb.2 it (Ne.symm n1)).trans q⟩, fun c hb => ?_⟩
    · have e1 : ((i + 1 : Nat) : Int) = (i : Int) + 1 := by omega
      rw [e1]; exact he'
    · have hb' : c < s.heap.objs.size := by
        have e' : c = e ∨ c = it := by simpa using hb
        rcases e' with rfl | rfl
        · exact hel
        · exact hil
      rw [upd_ne (Nat.ne_of_lt hb')]
      exact (hf c hb).1
  done := by
    intro X hP hw hK hc i pins s σ H E I hf st hg
    subst hP hw hK
    obtain ⟨⟨old, he⟩, hit⟩ := st
    obtain ⟨xs, hq, hx⟩ := hg
    obtain ⟨its, rv, p⟩ := sqB_inv I hq
    obtain ⟨f0, f1, f2, f3, f4, f5⟩ := hf it (by simp)
    have hl : its.toArray.size = i := by rw [List.size_toArray, ← rv.length, hx]
    exact wpAny_pyNext_enum_endD (drawsB (A := X.A.in1) (I.ok.hd hc) b it a n2 its.toArray) he ⟨by rw [hl]; exact hit, p⟩ fun h' eb => ⟨rfl, I.turned (t' := s.toks) (fun c o hb q => eb c o hb q) f0 f1 f3 f4 f5⟩
  self := fun A i s Q E st h => let ⟨⟨_, he⟩, _⟩ := st; wpAny_pyIter_enum he h
theorem meets_enumB1 {v : Value} {o : Obj} {H : Heap → Prop} (B : Begins v o H) :
    Meets (Builtin.«enumerate.__new__» ⟨[.type "enumerate", v], []⟩) (fun _ R s => H s.heap ∧
      R (.ok (.ret (.ref (s.heap.push o).objs.size))) { s with heap := (s.heap.push o).push { cls := .type "enumerate", data := .fields #[.none, .bool false, .ref s.heap.objs.size, rawInt 0, .none, .none] } }) :=
  .of_wp fun prog w A R s h => by
    obtain ⟨hp, g, d, tk, os⟩ := s; obtain ⟨h1, h⟩ := h
    have hsub := sub_enumerate
    have q1 : ∀ {A' : Around} {E : Value → Shared → Prop} {Q : Value → Shared → Prop}, Q (.ref hp.objs.size) ⟨hp.push o, g, d, tk, os⟩ → wpAny (model prog w) A' (pyIter v) Q E ⟨hp, g, d, tk, os⟩ :=
      fun q => B.iter prog w _ _ ⟨hp, g, d, tk, os⟩ _ h1 q
    wp_walk using q1
    refine wpAny_stack_any fun st => wpAny_pure ?_
    split
    · rename_i c _ _ _ _ _
      cases (c == Value.type "enumerate")
      · wp_walk using q1
        exact ⟨_, rfl, h⟩
      · wp_walk using q1
        exact ⟨_, rfl, h⟩
    · wp_walk using q1
      exact ⟨_, rfl, h⟩
theorem enumB1 {prog : Program} {w : World} {A : Around} {E : Value → Shared → Prop} {s : Shared} {v : Value} {o : Obj} {H : Heap → Prop} {Q : Value → Shared → Prop} (B : Begins v o H) (h1 : H s.heap)
    (h : ∀ h', IsEnum h' (s.heap.objs.size + 1) s.heap.objs.size 0 .none → h'.get? s.heap.objs.size = some o → h'.objs.size = s.heap.objs.size + 2 →
      (∀ b o, s.heap.get? b = some o → h'.get? b = some o) → Q (.ref (s.heap.objs.size + 1)) { s with heap := h' }) :
    wpAny (model prog w) A (call (.type "enumerate") [v]) Q E s := by
  refine callType_new F.called_enumerate (by decide) (F.typeCall_enumerate_1 _) (F.newCall_enumerate_1 _) (fun obj => F.args_object_init_2 obj _) F.entry_enumerate_new (meets_enumB1 B) ⟨h1, ?_⟩
  have hz : (s.heap.push o).objs.size = s.heap.objs.size + 1 := Heap.size_push ..
  show _ ∧ _
  rw [hz]
  have he : IsEnum ((s.heap.push o).push { cls := .type "enumerate", data := .fields #[.none, .bool false, .ref s.heap.objs.size, rawInt 0, .none, .none] }) (s.heap.objs.size + 1) s.heap.objs.size 0 .none := by
    have := Heap.get?_push_size (s.heap.push o) (o := { cls := .type "enumerate", data := .fields #[.none, .bool false, .ref s.heap.objs.size, rawInt 0, .none, .none] }) rfl
    rw [hz] at this; exact this
  refine ⟨⟨_, he, rfl⟩, h _ he (Heap.get?_push_of_some _ (Heap.get?_push_size _ B.free)) (by rw [Heap.size_push, hz]) fun b o x => Heap.get?_push_of_some _ (Heap.get?_push_of_some _ x)⟩
def iEnumB (K : PySem.W.Frag) (ta : TA) : TI := fun σ H R => ta σ H fun vs H1 => ∃ b a xs, vs = [.ref a] ∧ sqB b K H1 a xs ∧ R (IteB b K a) H1
theorem pi_enumB {X : Cx} {e : Expr} {ta : TA} {p pos tpos : Pos} {elts : List Expr} {kk : Nat} (hg : Gl X "enumerate") (hm : X.mg "enumerate" = none) (ha : PA X [e] ta) (hs : starEach [e] X.env = [(false, eval e X.env)]) :
    PI X (.Tuple elts kk tpos) (.Call (.Name "enumerate" p) [e] [] pos) (iEnumB X.K ta) := by
  refine ⟨fun pins s σ H R I h => ?_⟩
  refine Call_ (ld_blt I hg hm boot_enumerate (PyProof.Rows.callWith_type1 (thn (ha.run pos pins s σ H _ I h) fun us s1 ⟨vs, H1, I1, r1, q1⟩ => ?_) hs rfl))
  obtain ⟨b, a, xs, ex, hq, q⟩ := q1
  subst ex
  cases r1 with
  | cons r rr =>
    cases rr
    cases r
    obtain ⟨its, rv, p'⟩ := sqB_inv I1 hq
    refine enumB1 (beginsB b a its.toArray) p' fun h' he hit hsz hk => wpAny_pyIter_enum he ?_
    have I2 : Inv X pins σ H1 { s1 with heap := h' } := I1.kept (t' := s1.toks) hk
    obtain ⟨o, ho⟩ := isB_get p'
    have hal := Heap.lt_size ho
    refine ⟨s1.heap.objs.size + 1, [s1.heap.objs.size + 1, s1.heap.objs.size], _, _, H1, rfl, I2, turn_enumB b a (s1.heap.objs.size + 1) s1.heap.objs.size (Nat.succ_ne_self _) (Nat.ne_of_lt hal) (Nat.ne_of_lt (Nat.lt_succ_of_lt hal)), ⟨⟨.none, he⟩, itB_new hit⟩, fun c hb => ?_, q⟩
    have e' : c = s1.heap.objs.size + 1 ∨ c = s1.heap.objs.size := by simpa using hb
    have hle : s1.heap.objs.size ≤ c := by rcases e' with z | z <;> rw [z] <;> first | exact Nat.le_refl _ | exact Nat.le_add_right _ _
    exact I1.fpOk hle (I1.hok.fresh hle)
/-! ### zip -/
def ItzB (b1 b2 : Bool) (K : PySem.W.Frag) (a c : Addr) : It :=
  ⟨fun i H => ∃ (xs ys : List V) (x y : V), sqB b1 K H a xs ∧ sqB b2 K H c ys ∧ xs[i]? = some x ∧ ys[i]? = some y,
    fun i H v H' => ∃ T x y, v = .ref T ∧ H T = none ∧ H' = upd H T (.tup [x, y]) ∧ (∀ xs, sqB b1 K H a xs → xs[i]? = some x) ∧ ∀ ys, sqB b2 K H c ys → ys[i]? = some y,
    fun i H => ∃ xs ys : List V, sqB b1 K H a xs ∧ sqB b2 K H c ys ∧ i ≤ xs.length ∧ i ≤ ys.length ∧ (i = xs.length ∨ i = ys.length)⟩
theorem turn_zipB {P : Program} {w : World} {K : PySem.W.Frag} {elts : List Expr} {kk : Nat} {tpos : Pos} (b1 b2 : Bool) {a c z TI TO i1 i2 : Addr} (S : ZipSep2 z TI TO i1 i2 [i1, a] [i2, c]) (na : a ≠ i1) (nc : c ≠ i2) :
    Turn P w K (.Tuple elts kk tpos) (ItzB b1 b2 K a c) [z, TI, TO, i1, i2] z (fun i h => IsZip h z TI TO .none ∧ IsTupOf2 h TI (.ref i1) (.ref i2) ∧ (∃ x y, IsTupOf2 h TO x y) ∧ itB b1 h i1 a i ∧ itB b2 h i2 c i) where
  mem := by simp
  obj := fun i h st d hd => by
    obtain ⟨hz, hTI, ⟨x, y, hTO⟩, h1, h2⟩ := st
    have e' : d = z ∨ d = TI ∨ d = TO ∨ d = i1 ∨ d = i2 := by simpa using hd
    rcases e' with rfl | rfl | rfl | rfl | rfl
    · exact ⟨_, hz, fun v q => nomatch q⟩
    · exact ⟨_, hTI, fun v q => nomatch q⟩
    · exact ⟨_, hTO, fun v q => nomatch q⟩
    · exact itB_get h1
    · exact itB_get h2
  keep := fun i h h' st k => by
    obtain ⟨hz, hTI, ⟨x, y, hTO⟩, h1, h2⟩ := st
    exact ⟨k z (by simp) _ hz, k TI (by simp) _ hTI, ⟨x, y, k TO (by simp) _ hTO⟩, itB_at h1 fun o q => k i1 (by simp) o q, itB_at h2 fun o q => k i2 (by simp) o q⟩
  item := by
    intro X hP hw hK hc i pins s σ H E I hf st hg
    subst hP hw hK
    obtain ⟨hz, hTI, ⟨x0, y0, hTO⟩, h1, h2⟩ := st
    obtain ⟨xs, ys, x, y, hqx, hqy, hx, hy⟩ := hg
    obtain ⟨its, rv, p⟩ := sqB_inv I hqx
    obtain ⟨its2, rv2, p2⟩ := sqB_inv I hqy
    obtain ⟨u, hu, ru⟩ := rv.get hx
    obtain ⟨u2, hu2, ru2⟩ := rv2.get hy
    have hzl : z < s.heap.objs.size := Heap.lt_size hz
    have l1 : i < its.toArray.size := by have := (List.getElem?_eq_some_iff.mp hu).1; simpa using this
    have l2 : i < its2.toArray.size := by have := (List.getElem?_eq_some_iff.mp hu2).1; simpa using this
    refine wpAny_pyNext_zipD2_item S (drawsB (A := X.A.in1) (I.ok.hd hc) b1 i1 a na its.toArray) (drawsB (A := X.A.in1) (I.ok.hd hc) b2 i2 c nc its2.toArray) hz hTI hTO ⟨h1, p⟩ ⟨h2, p2⟩ l1 l2 fun x1 x2 h' tk e1 e2 z' TO' h1' h2' hT hsz hk => ?_
    have ex : x1 = u := by
      have : its.toArray[i]? = some u := by simpa using hu
      rw [this] at e1; exact (Option.some.inj e1).symm
    have ey : x2 = u2 := by
      have : its2.toArray[i]? = some u2 := by simpa using hu2
      rw [this] at e2; exact (Option.some.inj e2).symm
    subst ex ey
    refine ⟨_, rfl, wpAny_letOwnedTupleGo_zip (s := { s with heap := h', toks := tk }) z' fun h'' z'' sb => ?_⟩
    have hT2 : h''.get? s.heap.objs.size = some { cls := .type "tuple", data := .seq #[x1, x2] } := (sb.2 _ (Nat.ne_of_gt hzl)).trans hT
    have new : ObjOk X.prog X.w (upd H s.heap.objs.size (.tup [x, y])) h'' s.heap.objs.size (.tup [x, y]) :=
      ⟨by show 2 ≤ sizeLine; decide, [x1, x2], .cons ru (.cons ru2 .nil), ⟨_, hT2, rfl, _, rfl⟩⟩
    have I1 : Inv X pins σ (upd H s.heap.objs.size (.tup [x, y])) { s with heap := h'', toks := tk } :=
      I.turnedNew (t' := tk) (ch := [z, TI, TO, i1, i2]) (fun d o hb q => (sb.2 d (fun q' => hb (by simp [q']))).trans (hk d o (fun q' => hb (by simp [q'])) (fun q' => hb (by simp [q'])) (fun q' => hb (by simp [q'])) (fun q' => hb (by simp [q'])) q)) hf (Nat.le_refl _) new
    refine ⟨.ref s.heap.objs.size, _, I1, rfl, ⟨_, x, y, rfl, I.hok.fresh (Nat.le_refl _), rfl, fun l hl => by rw [sqB_inj I hl hqx]; exact hx, fun l hl => by rw [sqB_inj I hl hqy]; exact hy⟩, ⟨z'', ?_, ⟨x1, x2, ?_⟩, ?_, ?_⟩, fun d hcm => ?_⟩
    · exact (sb.2 _ S.TIz).trans (hk _ _ S.TIz S.TITO S.TIi1 S.TIi2 hTI)
    · exact (sb.2 _ S.TOz).trans TO'
    · exact itB_at h1'.1 fun o q => (sb.2 _ (Ne.symm S.zi1)).trans q
    · exact itB_at h2'.1 fun o q => (sb.2 _ (Ne.symm S.zi2)).trans q
    · have hlt : d < s.heap.objs.size := by
        have e' : d = z ∨ d = TI ∨ d = TO ∨ d = i1 ∨ d = i2 := by simpa using hcm
        rcases e' with rfl | rfl | rfl | rfl | rfl
        · exact hzl
        · exact Heap.lt_size hTI
        · exact Heap.lt_size hTO
        · obtain ⟨_, e1, _⟩ := itB_get h1; exact Heap.lt_size e1
        · obtain ⟨_, e2, _⟩ := itB_get h2; exact Heap.lt_size e2
      rw [upd_ne (Nat.ne_of_lt hlt)]
      exact (hf d hcm).1
  done := by
    intro X hP hw hK hc i pins s σ H E I hf st hg
    subst hP hw hK
    obtain ⟨hz, hTI, ⟨x0, y0, hTO⟩, h1, h2⟩ := st
    obtain ⟨xs, ys, hqx, hqy, le1, le2, hend⟩ := hg
    obtain ⟨its, rv, p⟩ := sqB_inv I hqx
    obtain ⟨its2, rv2, p2⟩ := sqB_inv I hqy
    have l1 : its.toArray.size = xs.length := by rw [List.size_toArray, ← rv.length]
    have l2 : its2.toArray.size = ys.length := by rw [List.size_toArray, ← rv2.length]
    exact wpAny_pyNext_zipD2_end S (drawsB (A := X.A.in1) (I.ok.hd hc) b1 i1 a na its.toArray) (drawsB (A := X.A.in1) (I.ok.hd hc) b2 i2 c nc its2.toArray) hz hTI hTO ⟨h1, p⟩ ⟨h2, p2⟩ (by omega) (by omega) (by omega) fun h' tk hk => ⟨rfl, I.turnedL (t' := tk) (ch := [z, TI, TO, i1, i2]) (fun d o hb q =>
      hk d o (fun q' => hb (by simp [q'])) (fun q' => hb (by simp [q'])) (fun q' => hb (by simp [q'])) (fun q' => hb (by simp [q'])) q) hf⟩
  self := fun A i s Q E st h => wpAny_pyIter_zip st.1 h
def iZipB (K : PySem.W.Frag) (ta : TA) : TI := fun σ H R => ta σ H fun vs H1 => ∃ b1 b2 a c xs ys, vs = [.ref a, .ref c] ∧ sqB b1 K H1 a xs ∧ sqB b2 K H1 c ys ∧ R (ItzB b1 b2 K a c) H1
theorem pi_zipB {X : Cx} {e e2 : Expr} {ta : TA} {p pos tpos : Pos} {elts : List Expr} {kk : Nat} (hg : Gl X "zip") (hm : X.mg "zip" = none) (ha : PA X [e, e2] ta)
    (hs : starEach [e, e2] X.env = (false, eval e X.env) :: starEach [e2] X.env) (hpl : (backTo pos (starEach [e2] X.env)).any (·.1) = false) :
    PI X (.Tuple elts kk tpos) (.Call (.Name "zip" p) [e, e2] [] pos) (iZipB X.K ta) := by
  refine ⟨fun pins s σ H R I h => ?_⟩
  refine Call_ (ld_blt I hg hm PyProof.Rows.boot_zip (PyProof.Rows.callWith_type1 (thn (ha.run pos pins s σ H _ I h) fun us s1 ⟨vs, H1, I1, r1, q1⟩ => ?_) hs hpl))
  obtain ⟨b1, b2, a, c, xs, ys, ex, hqx, hqy, q⟩ := q1
  subst ex
  cases r1 with
  | cons r rr =>
    cases rr with
    | cons r' rr =>
      cases rr
      cases r
      cases r'
      obtain ⟨its, rv, p1⟩ := sqB_inv I1 hqx
      obtain ⟨its2, rv2, p2⟩ := sqB_inv I1 hqy
      obtain ⟨o1, ho1⟩ := isB_get p1
      obtain ⟨o2, ho2⟩ := isB_get p2
      have la := Heap.lt_size ho1
      have lc := Heap.lt_size ho2
      refine zip_begins2 (beginsB b1 a its.toArray) (beginsB b2 c its2.toArray) p1 p2 fun h' hz hTI hTO h1 h2 hsz hk => wpAny_pyIter_zip hz ?_
      have I2 : Inv X pins σ H1 { s1 with heap := h' } := I1.kept (t' := s1.toks) hk
      have S : ZipSep2 (s1.heap.objs.size + 4) (s1.heap.objs.size + 2) (s1.heap.objs.size + 3) s1.heap.objs.size (s1.heap.objs.size + 1) [s1.heap.objs.size, a] [s1.heap.objs.size + 1, c] := by
        have ne : ∀ (i j : Nat), i ≠ j → (s1.heap.objs.size + i : Nat) ≠ s1.heap.objs.size + j := fun i j h => by omega
        have na : ∀ i : Nat, (s1.heap.objs.size + i : Nat) ≠ a := fun i h => Nat.lt_irrefl a (Nat.lt_of_lt_of_le la (by rw [← h]; exact Nat.le_add_right _ _))
        have nc : ∀ i : Nat, (s1.heap.objs.size + i : Nat) ≠ c := fun i h => Nat.lt_irrefl c (Nat.lt_of_lt_of_le lc (by rw [← h]; exact Nat.le_add_right _ _))
        have mem : ∀ {x y z : Addr}, x ≠ y → x ≠ z → x ∉ [y, z] := fun h1 h2 m => by
          rcases List.mem_cons.mp m with q | m
          · exact h1 q
          · exact h2 (List.mem_singleton.mp m)
        exact ⟨ne 2 4 (by decide), ne 3 4 (by decide), ne 2 3 (by decide), ne 2 0 (by decide), List.mem_cons_self, mem (ne 4 0 (by decide)) (na 4), mem (ne 3 0 (by decide)) (na 3), ne 2 1 (by decide), List.mem_cons_self, mem (ne 4 1 (by decide)) (nc 4), mem (ne 3 1 (by decide)) (nc 3), mem (ne 0 1 (by decide)) (nc 0), mem (ne 1 0 (by decide)) (na 1)⟩
      refine ⟨s1.heap.objs.size + 4, [s1.heap.objs.size + 4, s1.heap.objs.size + 2, s1.heap.objs.size + 3, s1.heap.objs.size, s1.heap.objs.size + 1], _, _, H1, rfl, I2, turn_zipB b1 b2 S (Nat.ne_of_lt la) (Nat.ne_of_lt (Nat.lt_succ_of_lt lc)), ⟨hz, hTI, ⟨_, _, hTO⟩, itB_new h1, itB_new h2⟩, fun d hd => ?_, q⟩
      have hle : s1.heap.objs.size ≤ d := by
        have e' : d = s1.heap.objs.size + 4 ∨ d = s1.heap.objs.size + 2 ∨ d = s1.heap.objs.size + 3 ∨ d = s1.heap.objs.size ∨ d = s1.heap.objs.size + 1 := by simpa using hd
        rcases e' with z | z | z | z | z <;> rw [z] <;> first | exact Nat.le_refl _ | exact Nat.le_add_right _ _
      exact I1.fpOk hle (I1.hok.fresh hle)
/-! ### what is computed -/
section
variable {X : Cx} {W : WX}
def lstV : Vl → Bool
  | .d (.tuple _) => false
  | _ => true
theorem sq_of {μ1 μ : Mp} {H1 H : Hp} {st : Sto} {p : Addr} {a : Vl} {xs : List PyData} (r : RV X.K X.mg μ1 H1 (.ref p) a) (kp : Kp μ1 H1 μ H) (S : RSt X.K μ H st) (e : asQ st a = some xs) : ∃ vs, sqB (lstV a) X.K H p vs ∧ RPs X.K μ H vs xs := by
  have r' := r.kp kp
  unfold asQ at e
  cases h : asT a with
  | some ys =>
    rw [h] at e
    simp at e
    subst e
    obtain ⟨q, vs, e2, h3, r1⟩ := asT_rd r' h
    cases e2
    have : lstV a = false := by
      cases a with
      | d x => cases x <;> simp [asT] at h <;> rfl
      | ref n => cases h
      | gl x => cases h
      | ty x => cases h
    rw [this]
    exact ⟨vs, h3, r1⟩
  | none =>
    rw [h] at e
    simp at e
    obtain ⟨q, vs, e2, h3, r1⟩ := asL_rd S r' e
    cases e2
    have : lstV a = true := by
      cases a with
      | d x => cases x <;> simp [asT] at h <;> rfl
      | ref n => rfl
      | gl x => rfl
      | ty x => rfl
    rw [this]
    exact ⟨vs, h3, r1⟩
def enNx (a : Vl) (i : Nat) (st : Sto) : Option (Option PyData) := (asQ st a).bind fun xs => match xs[i]? with
  | some d => some (some (.tuple [.int i, d]))
  | none => if i = xs.length then some none else none
def enM : List Vl → M Wk
  | [a] => fun st => match asQ st a with
    | some xs => .ok ⟨xs.length, enNx a⟩ st
    | none => .bad
  | _ => nope
theorem sqB_fun {μ : Mp} {H : Hp} {st : Sto} {p : Addr} {b : Bool} {xs : List PyData} {vs ws : List V} (h : sqB b X.K H p vs) (h' : ∀ ys, sqB b X.K H p ys → ys = ws) : vs = ws := h' vs h
theorem rj_enum {μ1 : Mp} {H1 : Hp} {p : Addr} {a : Vl} {n : Nat} (r : RV X.K X.mg μ1 H1 (.ref p) a) : RJ X ⟨n, enNx a⟩ (IteB (lstV a) X.K p) μ1 H1 := by
  intro μ H st kp S i
  constructor
  · intro e
    simp only [enNx] at e
    cases e1 : asQ st a with
    | none => rw [e1] at e; cases e
    | some xs =>
      rw [e1, Option.bind_some] at e
      obtain ⟨vs, h, r1⟩ := sq_of r kp S e1
      split at e
      · cases e
      · split at e
        · rename_i hi; exact ⟨vs, h, by rw [r1.length, hi]⟩
        · cases e
  · intro d e
    simp only [enNx] at e
    cases e1 : asQ st a with
    | none => rw [e1] at e; cases e
    | some xs =>
      rw [e1, Option.bind_some] at e
      obtain ⟨vs, h, r1⟩ := sq_of r kp S e1
      split at e
      · rename_i d' e2
        cases e
        obtain ⟨v, h3, h4⟩ := r1.get e2
        refine ⟨⟨vs, v, h, h3⟩, fun x H2 ⟨T, y, e3, e4, e5, e6⟩ => ?_⟩
        have := e6 vs h
        rw [h3] at this
        cases this
        subst e3 e5
        obtain ⟨μ2, g, S2, r2⟩ := newT (X := X) (vs := [.int (i : Nat), v]) S (.cons (.int _) (.cons h4 .nil)) e4
        cases r2 with
        | d r2 => exact ⟨μ2, g, S2, r2⟩
      · split at e <;> cases e
theorem ei_enum {elts : List Expr} {kk : Nat} {tpos p pos : Pos} {e : Expr} {f : Env → M (List Vl)} (hg : Gl X "enumerate") (hm : X.mg "enumerate" = none) (ha : PA X [e] (gA X W f)) (hs : noStar [e] = true) :
    PI X (.Tuple elts kk tpos) (.Call (.Name "enumerate" p) [e] [] pos) (gI X W fun ρ => M.bind (f ρ) enM) :=
  (pi_enumB hg hm ha (star_cons hs)).weak fun σ H R ⟨μ, ρ, st, re, S, h⟩ => gA.then re S h fun vs H1 as st1 μ1 re1 S1 ra g1 h1 => by
    unfold enM at h1
    split at h1
    · rename_i a
      cases ra with
      | cons ra rr =>
        cases rr
        cases e1 : asQ st1 a with
        | none => simp only [e1] at h1; exact h1.elim
        | some xs =>
          simp only [e1] at h1
          obtain ⟨q, vs, rfl, _, _⟩ := asQ_rd S1 ra e1
          obtain ⟨vs', h3, _⟩ := sq_of ra (Grow.refl _ _).kp S1 e1
          exact ⟨lstV a, q, vs', rfl, h3, h1.here S1 (rj_enum ra)⟩
    · exact h1.elim
def zpNx (a c : Vl) (i : Nat) (st : Sto) : Option (Option PyData) := (asQ st a).bind fun xs => (asQ st c).bind fun ys => match xs[i]?, ys[i]? with
  | some d, some f => some (some (.tuple [d, f]))
  | _, _ => if i ≤ xs.length ∧ i ≤ ys.length ∧ (i = xs.length ∨ i = ys.length) then some none else none
def zpM : List Vl → M Wk
  | [a, c] => fun st => match asQ st a, asQ st c with
    | some xs, some ys => .ok ⟨xs.length, zpNx a c⟩ st
    | _, _ => .bad
  | _ => nope
theorem rj_zip {μ1 : Mp} {H1 : Hp} {p q : Addr} {a c : Vl} {n : Nat} (r : RV X.K X.mg μ1 H1 (.ref p) a) (r' : RV X.K X.mg μ1 H1 (.ref q) c) : RJ X ⟨n, zpNx a c⟩ (ItzB (lstV a) (lstV c) X.K p q) μ1 H1 := by
  intro μ H st kp S i
  constructor
  · intro e
    simp only [zpNx] at e
    cases e1 : asQ st a with
    | none => rw [e1] at e; cases e
    | some xs =>
      cases e2 : asQ st c with
      | none => rw [e1, e2] at e; cases e
      | some ys =>
        rw [e1, e2, Option.bind_some, Option.bind_some] at e
        obtain ⟨vs, h, r1⟩ := sq_of r kp S e1
        obtain ⟨ws, h', r2⟩ := sq_of r' kp S e2
        split at e
        · cases e
        · split at e
          · rename_i hi; exact ⟨vs, ws, h, h', by rw [r1.length]; exact hi.1, by rw [r2.length]; exact hi.2.1, by rw [r1.length, r2.length]; exact hi.2.2⟩
          · cases e
  · intro d e
    simp only [zpNx] at e
    cases e1 : asQ st a with
    | none => rw [e1] at e; cases e
    | some xs =>
      cases e2 : asQ st c with
      | none => rw [e1, e2] at e; cases e
      | some ys =>
        rw [e1, e2, Option.bind_some, Option.bind_some] at e
        obtain ⟨vs, h, r1⟩ := sq_of r kp S e1
        obtain ⟨ws, h', r2⟩ := sq_of r' kp S e2
        split at e
        · rename_i d1 d2 f1 f2
          cases e
          obtain ⟨v, h3, h4⟩ := r1.get f1
          obtain ⟨w, h5, h6⟩ := r2.get f2
          refine ⟨⟨vs, ws, v, w, h, h', h3, h5⟩, fun x H2 ⟨T, y, z, e3, e4, e5, e6, e7⟩ => ?_⟩
          have q1 := e6 vs h
          have q2 := e7 ws h'
          rw [h3] at q1
          rw [h5] at q2
          cases q1
          cases q2
          subst e3 e5
          obtain ⟨μ2, g, S2, r2⟩ := newT (X := X) (vs := [v, w]) S (.cons h4 (.cons h6 .nil)) e4
          cases r2 with
          | d r2 => exact ⟨μ2, g, S2, r2⟩
        · split at e <;> cases e
theorem ei_zip {elts : List Expr} {kk : Nat} {tpos p pos : Pos} {e e2 : Expr} {f : Env → M (List Vl)} (hg : Gl X "zip") (hm : X.mg "zip" = none) (ha : PA X [e, e2] (gA X W f)) (hs : noStar [e, e2] = true) :
    PI X (.Tuple elts kk tpos) (.Call (.Name "zip" p) [e, e2] [] pos) (gI X W fun ρ => M.bind (f ρ) zpM) :=
  (pi_zipB hg hm ha (star_cons hs) (star_any (star_tail hs))).weak fun σ H R ⟨μ, ρ, st, re, S, h⟩ => gA.then re S h fun vs H1 as st1 μ1 re1 S1 ra g1 h1 => by
    unfold zpM at h1
    split at h1
    · rename_i a c
      cases ra with
      | cons ra rr =>
        cases rr with
        | cons rc rr =>
          cases rr
          cases e1 : asQ st1 a with
          | none => simp only [e1] at h1; exact h1.elim
          | some xs =>
            cases e2 : asQ st1 c with
            | none => simp only [e1, e2] at h1; exact h1.elim
            | some ys =>
              simp only [e1, e2] at h1
              obtain ⟨q, vs, rfl, _, _⟩ := asQ_rd S1 ra e1
              obtain ⟨q2, vs2, rfl, _, _⟩ := asQ_rd S1 rc e2
              obtain ⟨vs', h3, _⟩ := sq_of ra (Grow.refl _ _).kp S1 e1
              obtain ⟨ws', h4, _⟩ := sq_of rc (Grow.refl _ _).kp S1 e2
              exact ⟨lstV a, lstV c, q, q2, vs', ws', rfl, h3, h4, h1.here S1 (rj_zip ra rc)⟩
    · exact h1.elim
end
end Iv
set_option Elab.async false
set_option linter.all false
set_option maxRecDepth 100000
set_option maxHeartbeats 8000000
/-! Iv7c: word, *parts = t; *ahead, last = t; word, first, *rest = t. -/
namespace Iv
open PySem PySem.Spec PyProof.Rows L2
section
variable {prog : Program} {w : World} {A : Around} {E : Value → Shared → Prop} {s : Shared}
theorem star_items {t : Addr} {its : Array Value} {n i : Nat} {Q : List Value → Shared → Prop} (tup : IsTup s.heap t its) (calm : A.handled = none) (hi : i < n) (hn : n ≤ its.size + 1) (hz : its.size ≤ 16384)
    (h : ∀ (h' : Heap) (tk : Nat), (∀ b o, s.heap.get? b = some o → h'.get? b = some o) → Q (its.toList.take i ++ [.ref h'.objs.size] ++ (its.toList.drop i).drop (its.size + 1 - n))
      { s with heap := h'.push (seqObj "list" ((its.toList.drop i).take (its.size + 1 - n)).toArray 0), toks := tk }) : wpAny (model prog w) A (unpackItems (.ref t) n (some i)) Q E s := by
  obtain ⟨ot, hot, _⟩ := id tup
  have below : t < s.heap.objs.size := Heap.lt_size hot
  have apart := Nat.ne_of_lt below
  unfold unpackItems notIterableAtAll
  refine wpAny_bind (wpAny_bind (wpAny_specialOf tup.typeIs slot_tuple_iter.lookup (wpAny_pure ?_)))
  rw [if_neg (by exact Bool.false_ne_true)]
  refine wpAny_bind (wpAny_holding (iter_tuple tup ?_))
  dsimp only
  refine wpAny_bind (wpAny_holding (draw_tuple apart i 0 _ _ ⟨_, Heap.get?_push_size _ rfl, rfl, rfl⟩ (tup.push _) (by omega) fun g it1 same => ?_))
  have tup1 : IsTup g t its := (tup.push _).extBut same.extBut apart
  rw [Nat.zero_add] at it1
  obtain ⟨o1, ho1, _⟩ := id it1
  obtain ⟨o2, ho2, _⟩ := id tup1
  rw [List.drop_zero]
  have many : (its.toList.take i).length = i := by simp; omega
  rw [if_neg (by omega)]
  refine wpAny_bind (wpAny_holding (W.kun_collect (s := { s with heap := g }) (k := i) (.inr (.inr (.inr rfl))) (Walks.tuple (A := A.in1) calm s.heap.objs.size t apart its) (fun j u st => st.1.typeIs) (by omega) ⟨it1, tup1⟩ (Heap.lt_size ho1) (Heap.lt_size ho2) (fun g2 tk kept => ?_) (by rw [sizeLine_eq]; omega)))
  have rest : (its.toList.drop i).length = its.size - i := by simp
  have mid : (its.toList.drop i).length - (n - 1 - i) = its.size + 1 - n := by omega
  dsimp only
  rw [if_neg (by omega), mid]
  refine wpAny_bind (wpAny_newList (s := { s with heap := g2, toks := tk }) ?_ (by rw [List.length_take, rest, sizeLine_eq]; omega))
  refine wpAny_pure (h g2 tk fun b o e => ?_)
  have ne : b ≠ s.heap.objs.size := Nat.ne_of_lt (Heap.lt_size e)
  exact kept b o ne (same.extBut b o ne (Heap.get?_push_of_some _ e))
end
/-! ### as a target -/
/-- a target that may lay a new list -/
def gX (X : Cx) (m : Asg) : TG := fun v σ H Q => ∃ (μ : Mp) (ρ : Env) (st : Sto) (d : PyData) (ρ' : Env), RE X.K X.mg μ H σ ρ ∧ RSt X.K μ H st ∧ RP X.K μ H v d ∧ m d ρ = some ρ' ∧
  ∀ σ' H' μ', Grow μ H μ' H' → RSt X.K μ' H' st → RE X.K X.mg μ' H' σ' ρ' → Q σ' H'
def aStar (n i : Nat) (ms : List PyData → Env → Option Env) : Asg := fun d ρ => match d with
  | .tuple ds => if i < n ∧ n ≤ ds.length + 1 ∧ ds.length ≤ 16384 then ms (ds.take i ++ [.list ((ds.drop i).take (ds.length + 1 - n))] ++ (ds.drop i).drop (ds.length + 1 - n)) ρ else none
  | _ => none
section
variable {X : Cx}
theorem _root_.L2.PGs.cast {es es' : List Expr} {t : TGs} (h : PGs X es t) (e : (assignEach es' X.env).map (·.2) = (assignEach es X.env).map (·.2)) : PGs X es' t := ⟨fun pins s σ H vs us Q I r q => by rw [e]; exact h.run pins s σ H vs us Q I r q⟩
theorem Vals.take' {vs : List V} {us : List Value} (r : Vals vs us) : ∀ n, Vals (vs.take n) (us.take n) := by
  induction r with
  | nil => intro n; simpa using (Paired.nil : Vals [] [])
  | cons h t ih =>
    intro n
    cases n with
    | zero => exact .nil
    | succ n => exact .cons h (ih n)
theorem pg_star {es : List Expr} {k n i : Nat} {pos : Pos} {ms : List PyData → Env → Option Env} {T : List Nat} (hc : X.calm = true) (h : PGs X es (gGs X ms T)) (hn : (assignEach es X.env).length = n) (hst : (assignEach es X.env).findIdx? (·.1) = some i) :
    PG X (.Tuple es k pos) (gX X (aStar n i ms)) := by
  refine ⟨fun pins s σ H v u Q I r ⟨μ, ρ, st, d, ρ', re, S, rp, e, q⟩ => ?_⟩
  unfold aStar at e
  split at e
  · rename_i ds
    split at e
    · rename_i hl
      cases rp with
      | @tup a xs _ ht rs =>
        cases r
        obtain ⟨its, rv, tup, hz⟩ := I.tuple ht.sq
        have l0 : its.length = ds.length := by rw [← rv.length, rs.length]
        rw [assign_Tuple]
        refine wpAny_bind (wpAny_standAt ?_)
        unfold unpack
        rw [hn, hst]
        refine wpAny_bind (wpAny_holding (star_items tup (I.ok.hd hc) hl.1 (by rw [List.size_toArray]; omega) (by rw [List.size_toArray]; omega) fun g tk kept => ?_))
        rw [show its.toArray.size = ds.length by rw [List.size_toArray]; exact l0]
        have I1 : Inv X pins σ H { s with heap := g, toks := tk } := I.kept (t' := tk) kept
        have rmid : RPs X.K μ H ((xs.drop i).take (ds.length + 1 - n)) ((ds.drop i).take (ds.length + 1 - n)) := (rs.drop i).take _
        have vmid := Vals.take' (rv.drop i) (ds.length + 1 - n)
        have hfr : H g.objs.size = none := I1.hok.fresh (Nat.le_refl _)
        have I2 := I1.laid (a := g.objs.size) (t' := tk) (fun _ _ q => Heap.get?_push_of_some _ q) (Nat.le_refl _)
          (show ObjOk X.prog X.w _ (g.push (seqObj "list" ((its.drop i).take (ds.length + 1 - n)).toArray 0)) g.objs.size (.lst ((xs.drop i).take (ds.length + 1 - n))) from ⟨by rw [rmid.length]; simp [sizeLine_eq]; omega, _, 0, vmid, Heap.get?_push_size _ rfl⟩)
        have gr : Grow μ H μ (upd H g.objs.size (.lst ((xs.drop i).take (ds.length + 1 - n)))) := Grow.new S hfr
        refine h.run pins _ σ _ (xs.take i ++ [.ref g.objs.size] ++ (xs.drop i).drop (ds.length + 1 - n)) _ Q I2 (((Vals.take' rv i).append (show Vals [V.ref g.objs.size] [Value.ref g.objs.size] from .cons rfl .nil)).append ((rv.drop i).drop _)) ⟨μ, ρ, _, ρ', re.step gr, ?_, e, fun σ' re' _ _ => q σ' _ μ gr (S.new hfr) re'⟩
        exact ((((rs.take i).step gr).append (.cons (.lst (.inl ⟨.inl upd_same, S.fresh hfr⟩) (rmid.step gr)) .nil)).append (((rs.drop i).drop _).step gr))
    · cases e
  · cases e
end
end Iv
set_option Elab.async false
set_option linter.all false
set_option maxRecDepth 100000
set_option maxHeartbeats 4000000
/-! Iv8: list comprehensions. -/
namespace Iv
open PySem PySem.Spec PyProof.Rows L2

def noEx {α : Type} (m : M α) : M α := fun st => match m st with
  | .ok a st' => .ok a st'
  | _ => .bad
def wipeE (ρ : Env) : List Nat → Env
  | [] => ρ
  | v :: vs => (wipeE ρ vs).set v none
def lcLoop (nx : Nat → Sto → Option (Option PyData)) (body : PyData → M (Option PyData)) : Nat → Nat → List PyData → M (List PyData)
  | 0, _, _ => nope
  | f + 1, i, acc => fun st => match nx i st with
    | none => .bad
    | some none => .ok acc st
    | some (some d) => M.bind (body d) (fun o => match o with
      | none => lcLoop nx body f (i + 1) acc
      | some y => if acc.length < sizeLine then lcLoop nx body f (i + 1) (acc ++ [y]) else nope) st
def lcBody (ρ : Env) (asg : Asg) (tt : Env → M Bool) (te : Env → M Vl) : PyData → M (Option PyData) := fun d => match asg d ρ with
  | none => nope
  | some ρ2 => M.bind (noEx (tt ρ2)) fun b => if b = true then M.bind (noEx (te ρ2)) fun v => M.bind (frzM v) fun x => ret (some x) else ret none
def lcG (fin : List PyData → M Vl) (own : List Nat) (it : Env → M Wk) (asg : Asg) (tt : Env → M Bool) (te : Env → M Vl) : Env → M Vl := fun ρ => M.bind (it ρ) fun w =>
  M.bind (lcLoop w.nx (lcBody (wipeE ρ own) asg tt te) (w.n + 1) 0 []) fin
def lcM := lcG fun xs => ret (.d (.list xs))
/-- a new cell -/
def newC (xs : List PyData) : M Vl := fun st => .ok (.ref st.length) (st ++ [.lst xs])
def lcC := lcG newC
def yesM : Env → M Bool := fun _ => ret true

section
variable {X : Cx} {W : WX} {K : PySem.W.Frag} {mg : Str → Option Value}
abbrev W0 : WX := fun _ _ _ _ => False
theorem RE.wipe {μ : Mp} {H : Hp} {σ : L2.St} {ρ : Env} (h : RE K mg μ H σ ρ) : ∀ vs : List Nat, RE K mg μ H (wipe σ vs) (wipeE ρ vs)
  | [] => h
  | v :: vs => by
    have ih := RE.wipe h vs
    refine ⟨by show ((wipeE ρ vs).set v none).length = ((L2.wipe σ vs).set v none).length; rw [List.length_set, List.length_set]; exact ih.len, fun i x e => ?_⟩
    replace e : ((wipeE ρ vs).set v none)[i]? = some (some x) := e
    show ∃ w, ((L2.wipe σ vs).set v none)[i]? = some (some w) ∧ _
    by_cases q : v = i
    · subst q
      by_cases hl : v < (wipeE ρ vs).length
      · rw [List.getElem?_set_self hl] at e; cases e
      · have := (List.getElem?_eq_some_iff.mp e).1
        rw [List.length_set] at this; omega
    · rw [List.getElem?_set_ne q] at e
      rw [List.getElem?_set_ne q]
      exact ih.at_ i x e
theorem wipe_same {σ σ' : L2.St} (hl : σ'.length = σ.length) : ∀ {vs : List Nat}, (∀ i, i ∉ vs → σ'[i]? = σ[i]?) → wipe σ' vs = wipe σ vs := by
  intro vs h
  apply List.ext_getElem?
  intro i
  by_cases hi : i ∈ vs
  · have none_at : ∀ (τ : L2.St) (ws : List Nat), i ∈ ws → (wipe τ ws)[i]? = if i < τ.length then some none else none := by
      intro τ ws
      induction ws with
      | nil => intro h; cases h
      | cons w ws ih =>
        intro h
        show ((wipe τ ws).set w none)[i]? = _
        by_cases q : w = i
        · subst q
          by_cases hl : w < τ.length
          · rw [List.getElem?_set_self (by rw [wipe_length]; exact hl), if_pos hl]
          · rw [if_neg hl]
            exact List.getElem?_eq_none_iff.mpr (by rw [List.length_set, wipe_length]; omega)
        · rw [List.getElem?_set_ne q]
          rcases List.mem_cons.mp h with e | e
          · exact absurd e.symm q
          · exact ih e
    rw [none_at σ' vs hi, none_at σ vs hi, hl]
  · rw [wipe_out hi, wipe_out hi]
    exact h i hi
theorem wipe_wipe {σ : L2.St} {vs : List Nat} : wipe (wipe σ vs) vs = wipe σ vs := wipe_same (wipe_length _ _) fun i hi => wipe_out hi

/-- what is being made is written -/
theorem Kp.hid {μ : Mp} {H : Hp} {D : Addr} {o : HO} (h : D ∈ μ.h) : Kp μ H μ (upd H D o) :=
  ⟨fun a u r n => by
    have hne : a ≠ D := fun q => n.2 (by rw [q]; exact h)
    rcases r with r | ⟨o', r⟩
    · exact ⟨.inl (by rw [upd_ne hne]; exact r), n⟩
    · exact ⟨.inr ⟨o', by rw [upd_ne hne]; exact r⟩, n⟩, fun _ _ h => .inl h⟩
theorem RSt.hidUpd {μ : Mp} {H : Hp} {st : Sto} {D : Addr} {o : HO} (S : RSt K μ H st) (h : D ∈ μ.h) : RSt K μ (upd H D o) st := by
  refine ⟨S.len, hid_upd S.hid, S.dis, S.nd, fun n x c h1 h2 => ?_⟩
  have rc := S.cell n x c h1 h2
  have hne : ∀ a, x = some a → upd H D o a = H a := fun a ha => upd_ne fun q => S.dis D h (by rw [← q, ← ha]; exact List.mem_of_getElem? h1)
  cases x with
  | none => cases c <;> first | exact rc | exact rc.elim
  | some a =>
    cases c with
    | lst xs => obtain ⟨vs, h3, h4⟩ := rc; exact ⟨vs, (hne a rfl).trans h3, h4.kp (Kp.hid h)⟩
    | dct xs => obtain ⟨vs, h3, h4⟩ := rc; exact ⟨vs, (hne a rfl).trans h3, h4.kp (Kp.hid h)⟩
    | set so ks => exact ⟨(hne a rfl).trans rc.1, rc.2⟩
    | dtk kvs => obtain ⟨z, nd, es, ep, xs, vs, h1, h2, h3, h4, h5⟩ := rc; exact ⟨z, nd, es, ep, xs, vs, (hne a rfl).trans h1, h2, h3.kp (Kp.hid h), h4, h5.kp (Kp.hid h)⟩
    | dead => exact rc.elim
/-- hidden: no longer hidden -/
theorem Kp.unhide {μ : Mp} {H : Hp} {D : Addr} {l : List Addr} (h : μ.h = D :: l) : Kp μ H ⟨μ.c, l⟩ H :=
  ⟨fun a u r n => ⟨r, n.1, fun q => n.2 (by rw [h]; exact List.mem_cons_of_mem _ q)⟩, fun _ _ h => .inl h⟩
theorem RC.kp {μ μ' : Mp} {H H' : Hp} (k : Kp μ H μ' H') {x : Option Addr} {c : Cell} (h : RC K μ H x c) (e : ∀ a, x = some a → H' a = H a) : RC K μ' H' x c := by
  cases x with
  | none => cases c <;> first | exact h | exact h.elim
  | some a =>
    cases c with
    | lst xs => obtain ⟨vs, h1, h2⟩ := h; exact ⟨vs, (e a rfl).trans h1, h2.kp k⟩
    | dct xs => obtain ⟨vs, h1, h2⟩ := h; exact ⟨vs, (e a rfl).trans h1, h2.kp k⟩
    | set so ks => exact ⟨(e a rfl).trans h.1, h.2⟩
    | dtk kvs => obtain ⟨z, nd, es, ep, xs, vs, h1, h2, h3, h4, h5⟩ := h; exact ⟨z, nd, es, ep, xs, vs, (e a rfl).trans h1, h2, h3.kp k, h4, h5.kp k⟩
    | dead => exact h.elim
theorem RSt.unhide {μ : Mp} {H : Hp} {st : Sto} {D : Addr} {l : List Addr} (S : RSt K μ H st) (h : μ.h = D :: l) : RSt K ⟨μ.c, l⟩ H st :=
  ⟨S.len, fun a ha => S.hid a (by rw [h]; exact List.mem_cons_of_mem _ ha), fun a ha => S.dis a (by rw [h]; exact List.mem_cons_of_mem _ ha), S.nd, fun n x c h1 h2 => (S.cell n x c h1 h2).kp (Kp.unhide h) fun _ _ => rfl⟩
/-- a new object that nothing leads to yet -/
theorem Kp.hide {μ : Mp} {H : Hp} {D : Addr} {o : HO} (e : H D = none) : Kp μ H ⟨μ.c, D :: μ.h⟩ (upd H D o) :=
  ⟨fun a u r n => by
    have hne : a ≠ D := by
      intro q; subst q
      rcases r with r | ⟨_, r⟩ <;> (rw [e] at r; cases r)
    refine ⟨?_, n.1, fun q => ?_⟩
    · rcases r with r | ⟨o', r⟩
      · exact .inl (by rw [upd_ne hne]; exact r)
      · exact .inr ⟨o', by rw [upd_ne hne]; exact r⟩
    · rcases List.mem_cons.mp q with q | q
      · exact hne q
      · exact n.2 q, fun _ _ h => .inl h⟩
theorem RSt.hide {μ : Mp} {H : Hp} {st : Sto} {D : Addr} {o : HO} (S : RSt K μ H st) (e : H D = none) : RSt K ⟨μ.c, D :: μ.h⟩ (upd H D o) st := by
  refine ⟨S.len, fun a ha => ?_, fun a ha => ?_, S.nd, fun n x c h1 h2 => (S.cell n x c h1 h2).kp (Kp.hide e) fun a ha => upd_ne fun q => ?_⟩
  · by_cases q : a = D
    · subst q; rw [upd_same]; exact nofun
    · rw [upd_ne q]
      rcases List.mem_cons.mp ha with h | h
      · exact absurd h q
      · exact S.hid a h
  · rcases List.mem_cons.mp ha with h | h
    · subst h; exact (S.fresh e).1
    · exact S.dis a h
  · subst q; subst ha; exact S.trk (List.mem_of_getElem? h1) e

/-- between two turns -/
structure LcI (X : Cx) (μ1 : Mp) (H1 : Hp) (D : Addr) (μ : Mp) (H : Hp) (st : Sto) (acc : List PyData) : Prop where
  kp : Kp μ1 H1 μ H
  fz : ∀ a o, H1 a = some o → some a ∉ μ1.c → H a = some o ∧ some a ∉ μ.c
  hd : μ.h = D :: μ1.h
  len : μ1.c.length ≤ μ.c.length
  S : RSt X.K μ H st
  acc : ∃ vs, H D = some (.lst vs) ∧ RPs X.K μ H vs acc
theorem LcI.grow {μ1 μ μ' : Mp} {H1 H H' : Hp} {D : Addr} {st st' : Sto} {acc : List PyData} (I : LcI X μ1 H1 D μ H st acc) (g : Grow μ H μ' H') (S : RSt X.K μ' H' st') : LcI X μ1 H1 D μ' H' st' acc := by
  obtain ⟨vs, h1, h2⟩ := I.acc
  have hD : some D ∉ μ.c := I.S.dis D (by rw [I.hd]; exact List.mem_cons_self)
  refine ⟨I.kp.trans g.kp, fun a o e n => ?_, g.hd.trans I.hd, Nat.le_trans I.len g.len, S, vs, (g.fz D _ h1 hD).1, h2.step g⟩
  obtain ⟨e1, n1⟩ := I.fz a o e n
  exact g.fz a o e1 n1
theorem LcI.push {μ1 μ : Mp} {H1 H : Hp} {D : Addr} {st : Sto} {acc : List PyData} {vs : List V} {y : V} {x : PyData} (e0 : H1 D = none) (I : LcI X μ1 H1 D μ H st acc) (h1 : H D = some (.lst vs)) (h2 : RPs X.K μ H vs acc) (r : RP X.K μ H y x) :
    LcI X μ1 H1 D μ (upd H D (.lst (vs ++ [y]))) st (acc ++ [x]) := by
  have hm : D ∈ μ.h := by rw [I.hd]; exact List.mem_cons_self
  refine ⟨I.kp.trans (Kp.hid hm), fun a o e n => ?_, I.hd, I.len, I.S.hidUpd hm, _, upd_same, (h2.append (RPs.one r)).kp (Kp.hid hm)⟩
  obtain ⟨e1, n1⟩ := I.fz a o e n
  exact ⟨by rw [upd_ne (by intro q; subst q; rw [e0] at e; cases e)]; exact e1, n1⟩

/-- how the list that was made is handed on -/
def FinOk (X : Cx) (fin : List PyData → M Vl) : Prop := ∀ (μ1 : Mp) (H1 : Hp) (D : Addr) (μ : Mp) (H : Hp) (st st0 : Sto) (acc : List PyData) (Q : VK) (E : XK), H1 D = none → RSt X.K μ1 H1 st0 → LcI X μ1 H1 D μ H st acc → Post X.K X.mg (RV X.K X.mg) μ1 H1 Q E (fin acc st) → Q (.ref D) H
theorem fin_frz : FinOk X fun xs => ret (.d (.list xs)) := by
  intro μ1 H1 D μ2 Hh st2 st0 acc Q E eD S1 I P
  obtain ⟨vs', h1, h2⟩ := I.acc
  have hm : D ∈ μ2.h := by rw [I.hd]; exact List.mem_cons_self
  exact P (.ref D) Hh ⟨μ2.c, μ1.h⟩ ⟨I.fz, rfl, I.len, I.kp.at_⟩ (I.S.unhide I.hd) (.d (.lst (.inl ⟨.inl h1, I.S.dis D hm, fun q => S1.hid D q eD⟩) (h2.kp (Kp.unhide I.hd))))
theorem fin_cell : FinOk X newC := by
  intro μ1 H1 D μ2 Hh st2 st0 acc Q E eD S1 I P
  obtain ⟨vs', h1, h2⟩ := I.acc
  have hm : D ∈ μ2.h := by rw [I.hd]; exact List.mem_cons_self
  have hD : some D ∉ μ2.c := I.S.dis D hm
  have kp : Kp μ2 Hh ⟨μ2.c ++ [some D], μ1.h⟩ Hh := ⟨fun a u r n => ⟨r, fun q => by
    rcases List.mem_append.mp q with q | q
    · exact n.1 q
    · rw [Option.some.inj (List.mem_singleton.mp q)] at n; exact n.2 hm, fun q => n.2 (by rw [I.hd]; exact List.mem_cons_of_mem _ q)⟩,
    fun n x h => .inl (by show (μ2.c ++ [some D])[n]? = _; rw [List.getElem?_append_left (List.getElem?_eq_some_iff.mp h).1]; exact h)⟩
  have hl : μ2.c.length = st2.length := I.S.len
  refine P (.ref D) Hh ⟨μ2.c ++ [some D], μ1.h⟩ ⟨fun a o e n => ?_, rfl, by have := I.len; simp; omega, (I.kp.trans kp).at_⟩ ⟨by simp [hl], fun a ha => I.S.hid a (by rw [I.hd]; exact List.mem_cons_of_mem _ ha), fun a ha q => ?_, fun i j a e1 e2 => ?_, fun n x c e1 e2 => ?_⟩ (.ref (.inl ?_))
  · obtain ⟨e1, n1⟩ := I.fz a o e n
    refine ⟨e1, fun q => ?_⟩
    rcases List.mem_append.mp q with q | q
    · exact n1 q
    · rw [Option.some.inj (List.mem_singleton.mp q)] at e; rw [eD] at e; cases e
  · rcases List.mem_append.mp q with q | q
    · exact I.S.dis a (by rw [I.hd]; exact List.mem_cons_of_mem _ ha) q
    · rw [Option.some.inj (List.mem_singleton.mp q)] at ha; exact S1.hid D ha eD
  · have out : ∀ k : Nat, (μ2.c ++ [some D])[k]? = some (some a) → (k < μ2.c.length ∧ μ2.c[k]? = some (some a)) ∨ (k = μ2.c.length ∧ a = D) := by
      intro k h
      by_cases q : k < μ2.c.length
      · rw [List.getElem?_append_left q] at h; exact .inl ⟨q, h⟩
      · rw [List.getElem?_append_right (by omega)] at h
        have : k - μ2.c.length = 0 := by
          have := (List.getElem?_eq_some_iff.mp h).1
          simp at this; omega
        rw [this] at h
        simp at h
        exact .inr ⟨by omega, h.symm⟩
    rcases out i e1 with ⟨_, a1⟩ | ⟨a1, a2⟩
    · rcases out j e2 with ⟨_, b1⟩ | ⟨b1, b2⟩
      · exact I.S.nd i j a a1 b1
      · subst b2; exact absurd (List.mem_of_getElem? a1) hD
    · rcases out j e2 with ⟨_, b1⟩ | ⟨b1, b2⟩
      · subst a2; exact absurd (List.mem_of_getElem? b1) hD
      · omega
  · replace e1 : (μ2.c ++ [some D])[n]? = some x := e1
    by_cases q : n < μ2.c.length
    · rw [List.getElem?_append_left q] at e1
      rw [List.getElem?_append_left (by omega)] at e2
      exact (I.S.cell n x c e1 e2).kp kp fun _ _ => rfl
    · rw [List.getElem?_append_right (by omega)] at e1
      rw [List.getElem?_append_right (by omega)] at e2
      have q0 : n - μ2.c.length = 0 := by
        have := (List.getElem?_eq_some_iff.mp e1).1
        simp at this; omega
      have q1 : n - st2.length = 0 := by omega
      rw [q0] at e1; rw [q1] at e2
      simp at e1 e2
      subst e1; subst e2
      exact ⟨vs', h1, h2.kp kp⟩
  · show (μ2.c ++ [some D])[st2.length]? = _
    rw [List.getElem?_append_right (by omega)]
    simp [hl]
theorem ev_lc {fin : List PyData → M Vl} (hfin : FinOk X fin) {elt tg iter : Expr} {ifs : List Expr} {scope : Scope} {own : List (Str × Nat)} {it : Env → M Wk} {asg : Asg} {T : List Nat} {tt : Env → M Bool} {te : Env → M Vl} (hc : X.calm = true) (hN : X.N.Nodup) (hi : PI X tg iter (gI X W it)) (ok : BlkOk X.N X.env.scope scope own)
    (hg : ∀ (s : Shared) (H : Hp) (C : Addr) (cl : List (Str × Addr)) (fp : List Addr), PG (X.blk s H scope (compEnvC scope cl C X.env) fp) tg (gG X asg T)) (ht : ∀ (s : Shared) (H : Hp) (C : Addr) (cl : List (Str × Addr)) (fp : List Addr), PTs (X.blk s H scope (compEnvC scope cl C X.env) fp) ifs (gT X W0 tt))
    (he : ∀ (s : Shared) (H : Hp) (C : Addr) (cl : List (Str × Addr)) (fp : List Addr), PE (X.blk s H scope (compEnvC scope cl C X.env) fp) elt (gE X W0 te)) (hs : ∀ x, foldedSetIterable iter X.env x = pure x) (hT : ∀ i ∈ T, i ∈ own.map (·.2)) :
    ∀ σ H Q, gE X W (lcG fin (own.map (·.2)) it asg tt te) σ H Q → tLc (gI X W it) (gG X asg T) (gT X W0 tt) (gE X W0 te) (own.map (·.2)) σ H Q := by
  intro σ H Q ⟨μ, ρ, st, re, S, h⟩
  generalize own.map (·.2) = vs at *
  refine ⟨μ, ρ, st, re, S, h.bind.mono fun J H1 _ _ _ _ _ _ _ ⟨w, st1, μ1, g, S1, rj, p⟩ => ?_⟩
  intro D eD
  have re1 := re.step g
  replace rj : RJ X w J μ1 H1 := rj
  refine ⟨fun i m Hh => ∃ μ st acc, LcI X μ1 H1 D μ Hh st acc ∧ Post X.K X.mg (RV X.K X.mg) μ1 H1 Q (fun cls d H' => W cls d σ H') (M.bind (lcLoop w.nx (lcBody (wipeE ρ vs) asg tt te) m i acc) fin st),
    ⟨w.n + 1, ⟨μ1.c, D :: μ1.h⟩, st1, [], ⟨Kp.hide eD, fun a o e n => ⟨by rw [upd_ne (by intro q; subst q; rw [eD] at e; cases e)]; exact e, n⟩, rfl, Nat.le_refl _, S1.hide eD, [], upd_same, .nil⟩, p⟩, ?_⟩
  rintro i m Hh ⟨μ2, st2, acc, I, P⟩
  cases m with
  | zero => exact P.elim
  | succ m =>
    have J1 := rj μ2 Hh st2 I.kp I.S i
    simp only [M.bind, lcLoop] at P
    cases e : w.nx i st2 with
    | none => rw [e] at P; exact P.elim
    | some o =>
      cases o with
      | none =>
        rw [e] at P
        exact .inl ⟨J1.1 e, hfin μ1 H1 D μ2 Hh st2 st1 acc Q _ eD S1 I P⟩
      | some d =>
        rw [e] at P
        obtain ⟨j1, j2⟩ := J1.2 d e
        refine .inr ⟨j1, fun H' => ∃ m', m' < m + 1 ∧ ∃ μ st acc, LcI X μ1 H1 D μ H' st acc ∧ Post X.K X.mg (RV X.K X.mg) μ1 H1 Q (fun cls d H' => W cls d σ H') (M.bind (lcLoop w.nx (lcBody (wipeE ρ vs) asg tt te) m' (i + 1) acc) fin st),
          fun H' h => h, fun x H2 hy => ?_⟩
        obtain ⟨μ3, g3, S3, r3⟩ := j2 x H2 hy
        have I3 := I.grow g3 S3
        simp only [lcBody] at P
        cases e2 : asg d (wipeE ρ vs) with
        | none => rw [e2] at P; exact P.elim
        | some ρ2 =>
          rw [e2] at P
          refine ⟨μ3, wipeE ρ vs, d, ρ2, (RE.wipe re1 vs).kp I3.kp, r3, e2, fun σ2 re2 l2 k2 => ⟨?_, μ3, ρ2, st2, re2, S3, ?_⟩⟩
          · have z : wipe σ2 vs = wipe (wipe σ vs) vs := wipe_same l2 fun i hi => k2 i fun q => hi (hT i q)
            rw [z, wipe_wipe]
          · simp only [M.bind, noEx] at P
            cases e3 : tt ρ2 st2 with
            | bad => rw [e3] at P; exact P
            | ex _ _ => rw [e3] at P; exact P.elim
            | ok b st3 =>
              rw [e3] at P
              intro b' H3 μ4 g4 S4 hb
              replace hb : b' = b := hb
              subst hb
              have I4 := I3.grow g4 S4
              cases b' with
              | false =>
                simp only [ret] at P
                exact ⟨m, Nat.lt_succ_self m, μ4, st3, acc, I4, P⟩
              | true =>
                simp only [if_true, M.bind, noEx] at P
                refine ⟨μ4, ρ2, st3, re2.step g4, S4, ?_⟩
                cases e4 : te ρ2 st3 with
                | bad => rw [e4] at P; exact P
                | ex _ _ => rw [e4] at P; exact P.elim
                | ok v st4 =>
                  rw [e4] at P
                  intro y H4 μ5 g5 S5 ry
                  have I5 := I4.grow g5 S5
                  simp only [frzM] at P
                  cases e5 : frz1 st4 v with
                  | none => rw [e5] at P; exact P.elim
                  | some q =>
                    obtain ⟨x5, st5⟩ := q
                    rw [e5] at P
                    obtain ⟨μ6, g6, S6, r6⟩ := frz1_ok S5 ry e5
                    have I6 := I5.grow g6 S6
                    obtain ⟨vs', h1, h2⟩ := I6.acc
                    simp only [ret] at P
                    by_cases hz : acc.length < sizeLine
                    · simp only [if_pos hz] at P
                      refine ⟨vs', h1, by rw [h2.length]; exact hz, m, Nat.lt_succ_self m, μ6, st5, acc ++ [x5], I6.push eD h1 h2 r6, P⟩
                    · simp only [if_neg hz] at P
                      exact P.elim
theorem ev_lcE {fin : List PyData → M Vl} (hfin : FinOk X fin) {elt tg iter : Expr} {ifs : List Expr} {scope : Scope} {own : List (Str × Nat)} {pos : Pos} {it : Env → M Wk} {asg : Asg} {T : List Nat} {tt : Env → M Bool} {te : Env → M Vl} (hc : X.calm = true) (hN : X.N.Nodup) (hi : PI X tg iter (gI X W it)) (ok : BlkOk X.N X.env.scope scope own)
    (hg : ∀ (s : Shared) (H : Hp) (C : Addr) (cl : List (Str × Addr)) (fp : List Addr), PG (X.blk s H scope (compEnvC scope cl C X.env) fp) tg (gG X asg T)) (ht : ∀ (s : Shared) (H : Hp) (C : Addr) (cl : List (Str × Addr)) (fp : List Addr), PTs (X.blk s H scope (compEnvC scope cl C X.env) fp) ifs (gT X W0 tt))
    (he : ∀ (s : Shared) (H : Hp) (C : Addr) (cl : List (Str × Addr)) (fp : List Addr), PE (X.blk s H scope (compEnvC scope cl C X.env) fp) elt (gE X W0 te)) (hs : ∀ x, foldedSetIterable iter X.env x = pure x) (hT : ∀ i ∈ T, i ∈ own.map (·.2)) :
    PE X (.ListComp elt [⟨tg, iter, ifs, 0⟩] scope pos) (gE X W (lcG fin (own.map (·.2)) it asg tt te)) :=
  (pe_lc hc hN hi ok hg ht he hs).weak (ev_lc hfin hc hN hi ok hg ht he hs hT)
end
end Iv
set_option Elab.async false
set_option linter.all false
set_option maxRecDepth 100000
set_option maxHeartbeats 8000000
/-! Iv8b: cells: made; methods of lists. -/
namespace Iv
open PySem PySem.Spec PyProof.Rows L2
section
variable {X : Cx} {W : WX}
theorem some_bind {α β : Type} {o : Option α} {f : α → Option β} {b : β} (h : o.bind f = some b) : ∃ a, o = some a ∧ f a = some b := Option.bind_eq_some_iff.mp h
/-- a new cell, from a rule that lays a new list -/
theorem newCell {μ : Mp} {H : Hp} {st : Sto} {vs : List V} {ds : List PyData} {p : Addr} (S : RSt X.K μ H st) (r : RPs X.K μ H vs ds) (e : H p = none) :
    ∃ μ', Grow μ H μ' (upd H p (.lst vs)) ∧ RSt X.K μ' (upd H p (.lst vs)) (st ++ [.lst ds]) ∧ RV X.K X.mg μ' (upd H p (.lst vs)) (.ref p) (.ref st.length) := by
  have g : Grow μ H (μ.add p) (upd H p (.lst vs)) := Grow.cell S e
  refine ⟨μ.add p, g, S.cellNew e ⟨vs, upd_same, r.step g⟩, .ref (.inl ?_)⟩
  show (μ.c ++ [some p])[st.length]? = _
  rw [← S.len, List.getElem?_append_right (Nat.le_refl _)]
  simp
def lstC (f : Env → M (List Vl)) : Env → M Vl := fun ρ => M.bind (f ρ) fun as => M.bind (frzsM as) fun xs => if xs.length ≤ sizeLine then newC xs else nope
theorem ev_lstC {es : List Expr} {f : Env → M (List Vl)} {pos : Pos} (h : PA X es (gA X W f)) : PE X (.List es pos) (gE X W (lstC f)) :=
  (pe_lst h).weak fun σ H Q ⟨μ, ρ, st, re, S, h⟩ => gA.then re S h fun vs H1 as st1 μ1 re1 S1 ras g1 h1 => by
    obtain ⟨xs, st2, μ2, g2, S2, r2, h2⟩ := post_frzs h1 S1 ras
    split at h2
    · rename_i hz
      refine ⟨by rw [r2.length]; exact hz, fun p hp => ?_⟩
      obtain ⟨μ3, g3, S3, r3⟩ := newCell (X := X) S2 r2 hp
      exact h2 _ _ μ3 g3 S3 r3
    · exact h2.elim
def pListC1 : P1 := fun a st => (asQ st a).map fun xs => (.ref st.length, st ++ [.lst xs])
def pListC : Pr := l1 pListC1
theorem ok_listC : PrOk X (fun us => call (.type "list") us) pListC := by
  refine pr_call call_list_of fun H xs μ st as res ras S e => ?_
  obtain ⟨a, rfl⟩ := l1_of e
  obtain ⟨x, rfl, ra⟩ := ras.one
  simp only [pListC, l1, pListC1] at e
  cases e1 : asQ st a with
  | none => rw [e1] at e; cases e
  | some ds =>
    rw [e1] at e
    cases e
    obtain ⟨p, vs, rfl, hp, r1⟩ := asQ_rd S ra e1
    exact ⟨p, vs, rfl, hp, fun l hl => newCell S r1 hl⟩

theorem cell_set {μ : Mp} {H : Hp} {st : Sto} {n : Nat} {a : Addr} {xs ys : List PyData} {ws : List V} (S : RSt X.K μ H st) (hm : μ.c[n]? = some (some a)) (r : RPs X.K μ H ws ys) :
    Grow μ H μ (upd H a (.lst ws)) ∧ RSt X.K μ (upd H a (.lst ws)) (st.set n (.lst ys)) := by
  have g : Grow μ H μ (upd H a (.lst ws)) := Grow.write hm
  exact ⟨g, S.write hm ⟨ws, upd_same, r.step g⟩⟩
theorem cell_get {μ : Mp} {H : Hp} {st : Sto} {n : Nat} {v : V} {xs : List PyData} (S : RSt X.K μ H st) (r : RV X.K X.mg μ H v (.ref n)) (e : st[n]? = some (.lst xs)) : ∃ a vs, v = .ref a ∧ μ.c[n]? = some (some a) ∧ H a = some (.lst vs) ∧ RPs X.K μ H vs xs := by
  cases r with
  | ref r =>
    rename_i a
    rcases r with r | r
    · obtain ⟨vs, h1, h2⟩ := S.cell n _ _ r e
      exact ⟨a, vs, rfl, r, h1, h2⟩
    · exact (S.cell n _ _ r e).elim
/-! ### methods of lists -/
def pAppend2 : P2
  | .ref n, a => fun st => (frz1 st a).bind fun q => match q.2[n]? with
    | some (.lst xs) => if xs.length < sizeLine then some (.d .none, q.2.set n (.lst (xs ++ [q.1]))) else none
    | _ => none
  | _, _ => fun _ => none
def pPop1 : P1
  | .ref n => fun st => match st[n]? with
    | some (.lst xs) => (xs[xs.length - 1]?).map fun x => (.d x, st.set n (.lst xs.dropLast))
    | _ => none
  | _ => fun _ => none
def pPopAt2 : P2
  | .ref n, .d (.int i) => fun st => match st[n]? with
    | some (.lst xs) => if -(2 ^ 63) ≤ i ∧ i < 2 ^ 63 then (seqIndex? i xs.length).bind fun k => (xs[k]?).map fun x => (.d x, st.set n (.lst (xs.eraseIdx k))) else none
    | _ => none
  | _, _ => fun _ => none
/-- from a method's rule, the receiver and one argument -/
def rM1 (X : Cx) (p : P1) : V → List V → Hp → VK → Prop := fun x vs H Q => vs = [] ∧ rP1 X p x H Q
def rM2 (X : Cx) (p : P2) : V → List V → Hp → VK → Prop := fun x vs H Q => ∃ y, vs = [y] ∧ rP X p x y H Q
theorem mt_appendW : MtR X "list.append" (rM2 X pAppend2) := by
  intro pins s σ H x vs v us Q I rx rv ⟨y, hv, μ, st, a, b, r, ra, rb, S, e, q⟩
  subst hv
  refine mt_append pins s σ H x [y] v us Q I rx rv ?_
  unfold pAppend2 at e
  split at e
  · rename_i n
    cases e1 : frz1 st b with
    | none => rw [e1] at e; cases e
    | some z =>
      obtain ⟨x1, st1⟩ := z
      rw [e1, Option.bind_some] at e
      dsimp only at e
      obtain ⟨μ1, g1, S1, r1⟩ := frz1_ok S rb e1
      split at e
      · rename_i xs hx
        split at e
        · rename_i hz
          cases e
          obtain ⟨p, ws, rfl, hm, hp, r2⟩ := cell_get S1 (ra.step g1) hx
          obtain ⟨g5, S5⟩ := cell_set (X := X) (xs := xs) S1 hm (r2.append (RPs.one r1))
          exact ⟨p, ws, y, rfl, rfl, hp, by rw [r2.length]; exact hz, q _ _ μ1 (g1.trans g5) S5 (.d .non)⟩
        · cases e
      · cases e
  · cases e
theorem mt_popW : MtR X "list.pop" (rM1 X pPop1) := by
  intro pins s σ H x vs v us Q I rx rv ⟨hv, μ, st, a, r, ra, S, e, q⟩
  subst hv
  refine mt_pop pins s σ H x [] v us Q I rx rv ?_
  unfold pPop1 at e
  split at e
  · rename_i n
    split at e
    · rename_i xs hx
      obtain ⟨z, hz, rfl⟩ := Option.map_eq_some_iff.mp e
      obtain ⟨p, ws, rfl, hm, hp, r2⟩ := cell_get S ra hx
      obtain ⟨y, hy, ry⟩ := r2.get hz
      obtain ⟨g5, S5⟩ := cell_set (X := X) (xs := xs) S hm r2.dropLast
      exact ⟨p, ws, y, rfl, rfl, hp, by rw [r2.length]; exact hy, q _ _ μ g5 S5 (.d (ry.step g5))⟩
    · cases e
  · cases e
theorem mt_popAtW : MtR X "list.pop" (rM2 X pPopAt2) := by
  intro pins s σ H x vs v us Q I rx rv ⟨y, hv, μ, st, a, b, r, ra, rb, S, e, q⟩
  subst hv
  refine mt_popAt pins s σ H x [y] v us Q I rx rv ?_
  unfold pPopAt2 at e
  split at e
  · rename_i n i
    split at e
    · rename_i xs hx
      split at e
      · rename_i hi
        obtain ⟨k, hk, e⟩ := some_bind e
        obtain ⟨z, hz, rfl⟩ := Option.map_eq_some_iff.mp e
        obtain ⟨p, ws, rfl, hm, hp, r2⟩ := cell_get S ra hx
        obtain ⟨y', hy, ry⟩ := r2.get hz
        obtain ⟨g5, S5⟩ := cell_set (X := X) (xs := xs) S hm (r2.eraseIdx k)
        cases rb with
        | d rb => cases rb; exact ⟨p, ws, i, k, y', rfl, rfl, hp, hi.1, hi.2, by rw [r2.length]; exact hk, hy, q _ _ μ g5 S5 (.d (ry.step g5))⟩
      · cases e
    · cases e
  · cases e
/-- a call of a method by its name: the receiver is a list -/
def isL (a : Vl) : M Unit := fun st => match asL st a with
  | some _ => .ok () st
  | none => .bad
def meth1 (p : P1) (f : Env → M Vl) : Env → M Vl := fun ρ => M.bind (f ρ) fun a => M.bind (isL a) fun _ => lift1 p a
def meth2 (p : P2) (f g : Env → M Vl) : Env → M Vl := fun ρ => M.bind (f ρ) fun a => M.bind (isL a) fun _ => M.bind (g ρ) fun b => lift2 p a b
theorem post_isL {β γ : Type} {R2 : Rl β γ} {μ : Mp} {H : Hp} {Q : β → Hp → Prop} {E : XK} {a : Vl} {st : Sto} {x : V} {f : Unit → M γ} (h : Post X.K X.mg R2 μ H Q E (M.bind (isL a) f st)) (S : RSt X.K μ H st) (r : RV X.K X.mg μ H x a) :
    tyV X.K "list" x H ∧ Post X.K X.mg R2 μ H Q E (f () st) := by
  simp only [M.bind, isL] at h
  cases e : asL st a with
  | none => rw [e] at h; exact h.elim
  | some xs =>
    rw [e] at h
    obtain ⟨p, vs, rfl, hp, _⟩ := asL_rd S r e
    exact ⟨.inl ⟨rfl, vs, hp⟩, h⟩
theorem few_ok {e : Expr} {cpos : Pos} {env : PySem.Env} (h : noStar [e] = true) : ((backTo cpos (starEach [e] env)).all (fun x => !x.1) && (backToKw cpos (keywordEach [] env)).all (fun x => x.1.isSome)
      && decide ([e].length + ([] : List Keyword).length + (if ([] : List Keyword).isEmpty then 0 else 1) < 30)) = true := by
  rw [star_cons h]; rfl
theorem ev_meth1 {o : Expr} {name : Str} {id : String} {p : P1} {f : Env → M Vl} {apos cpos : Pos} (slot : Slot "list" name id) (hty : typeOf (.builtin id) = pure (.type "method_descriptor")) (hm : MtR X id (rM1 X p)) (ho : PE X o (gE X W f))
    (hbase : attributeBase o name X.env (eval o X.env) = eval o X.env) (hline : (apos.endLine == cpos.line) = true) : PE X (.Call (.Attribute o name apos) [] [] cpos) (gE X W (meth1 p f)) :=
  (pe_bm0 PySem.F.plainAttrs_list slot hty hm ho hbase hline).weak fun σ H Q ⟨μ, ρ, st, re, S, h⟩ => gE.then (β := Unit) re S h fun v H1 a st1 μ1 re1 S1 ra g1 h1 => by
    obtain ⟨ty, h2⟩ := post_isL h1 S1 ra
    exact ⟨ty, rfl, post1 h2 ra S1⟩
theorem ev_meth2 {o e : Expr} {name : Str} {id : String} {p : P2} {f g : Env → M Vl} {apos cpos : Pos} (slot : Slot "list" name id) (hty : typeOf (.builtin id) = pure (.type "method_descriptor")) (hm : MtR X id (rM2 X p)) (ho : PE X o (gE X W f)) (he : PE X e (gE X W g))
    (hbase : attributeBase o name X.env (eval o X.env) = eval o X.env) (hline : (apos.endLine == cpos.line) = true) (hs : noStar [e] = true) : PE X (.Call (.Attribute o name apos) [e] [] cpos) (gE X W (meth2 p f g)) :=
  (pe_bm PySem.F.plainAttrs_list slot hty hm ho (pa_cons he pa_nil (star_cons hs)) hbase (few_ok hs) hline (star_cons hs) (star_any (star_tail hs))).weak fun σ H Q ⟨μ, ρ, st, re, S, h⟩ => gE.then (β := Unit) re S h fun v H1 a st1 μ1 re1 S1 ra g1 h1 => by
    obtain ⟨ty, h2⟩ := post_isL h1 S1 ra
    exact ⟨ty, gE.then (β := Unit) re1 S1 h2 fun w H2 b st2 μ2 re2 S2 rb g2 h3 => ⟨w, rfl, post2 h3 (ra.step g2) rb S2⟩⟩
end
end Iv
set_option Elab.async false
set_option linter.all false
set_option maxRecDepth 100000
set_option maxHeartbeats 8000000
/-! Iv8c: dict displays; dicts as cells. -/
namespace Iv
open PySem PySem.Spec PyProof.Rows L2
section
variable {X : Cx} {W : WX}
/-- nothing is let out -/
def ex0 {α : Type} (m : M α) : M α := fun st => match m st with
  | .ok a st' => .ok a st'
  | _ => .bad
theorem ex0_ok {α : Type} {m : M α} {st st' : Sto} {a : α} (h : ex0 m st = .ok a st') : m st = .ok a st' := by
  unfold ex0 at h
  split at h
  · rename_i e; cases h; exact e
  · cases h
theorem bind_ok {α β : Type} {m : M α} {f : α → M β} {st st' : Sto} {b : β} (h : M.bind m f st = .ok b st') : ∃ a st1, m st = .ok a st1 ∧ f a st1 = .ok b st' := by
  unfold M.bind at h
  split at h
  · rename_i a st1 e; exact ⟨a, st1, e, h⟩
  · cases h
  · cases h
def prs : List ((Env → M Vl) × (Env → M Vl)) → Env → M (List (Vl × Vl))
  | [], _ => ret []
  | q :: r, ρ => M.bind (ex0 (q.1 ρ)) fun a => M.bind (ex0 (q.2 ρ)) fun b => M.bind (prs r ρ) fun l => ret ((a, b) :: l)
inductive RPr (K : PySem.W.Frag) (mg : Str → Option Value) (μ : Mp) (H : Hp) : List (V × V) → List (Vl × Vl) → Prop
  | nil : RPr K mg μ H [] []
  | cons {x y : V} {a b : Vl} {vs : List (V × V)} {as : List (Vl × Vl)} : RV K mg μ H x a → RV K mg μ H y b → RPr K mg μ H vs as → RPr K mg μ H ((x, y) :: vs) ((a, b) :: as)
theorem prs_run {σ : L2.St} {ρ : Env} : ∀ (l : List ((Env → M Vl) × (Env → M Vl))) {μ : Mp} {H : Hp} {st st' : Sto} {ps : List (Vl × Vl)} {Q : List (V × V) → Hp → Prop}, RE X.K X.mg μ H σ ρ → RSt X.K μ H st → prs l ρ st = .ok ps st' →
    (∀ vs H' μ', Grow μ H μ' H' → RSt X.K μ' H' st' → RPr X.K X.mg μ' H' vs ps → Q vs H') → tPairs (l.map fun q => (gE X W q.1, gE X W q.2)) σ H Q
  | [], μ, H, st, st', ps, Q, re, S, e, k => by cases e; exact k [] H μ (Grow.refl _ _) S .nil
  | q :: r, μ, H, st, st', ps, Q, re, S, e, k => by
    obtain ⟨a, st1, e1, e⟩ := bind_ok e
    obtain ⟨b, st2, e2, e⟩ := bind_ok e
    obtain ⟨l, st3, e3, e⟩ := bind_ok e
    cases e
    have e1 := ex0_ok e1
    have e2 := ex0_ok e2
    refine ⟨μ, ρ, st, re, S, ?_⟩
    rw [e1]
    intro v H1 μ1 g1 S1 ra
    refine ⟨μ1, ρ, st1, re.step g1, S1, ?_⟩
    rw [e2]
    intro w H2 μ2 g2 S2 rb
    refine prs_run r ((re.step g1).step g2) S2 e3 fun vs H3 μ3 g3 S3 rp => k _ H3 μ3 ((g1.trans g2).trans g3) S3 (.cons ((ra.step g2).step g3) (rb.step g3) rp)
def keysD : List (Vl × Vl) → Option (List Key)
  | [] => some []
  | y :: r => (kyOf y.1).bind fun k => (keysD r).map (k :: ·)
theorem keys_rp {K : PySem.W.Frag} {mg : Str → Option Value} {μ : Mp} {H : Hp} {vs : List (V × V)} {ps : List (Vl × Vl)} (r : RPr K mg μ H vs ps) : ∀ {ks : List Key}, keysD ps = some ks → vs = (ks.zip (vs.map (·.2))).map (fun kv => (kV kv.1, kv.2)) ∧ ks.length = ps.length ∧ RVs K mg μ H (vs.map (·.2)) (ps.map (·.2)) := by
  induction r with
  | nil => intro ks e; cases e; exact ⟨rfl, rfl, .nil⟩
  | cons ra rb t ih =>
    intro ks e
    unfold keysD at e
    obtain ⟨k, e1, e⟩ := Option.bind_eq_some_iff.mp e
    obtain ⟨ks', e2, rfl⟩ := Option.map_eq_some_iff.mp e
    obtain ⟨h1, h2, h3⟩ := ih e2
    have := ky_rv ra e1
    subst this
    refine ⟨?_, by simp [h2], .cons rb h3⟩
    simp only [List.map_cons, List.zip_cons_cons]
    rw [← h1]
theorem RKs.zip {K : PySem.W.Frag} {μ : Mp} {H : Hp} : ∀ {ks : List Key} {vs : List V} {ds : List PyData}, RPs K μ H vs ds → RKs K μ H (ks.zip vs) (ks.zip ds)
  | [], _, _, _ => .nil
  | k :: ks, _, _, .nil => .nil
  | k :: ks, _, _, .cons h t => .cons h (RKs.zip t)
def dctG (fin : DKv → M Vl) (l : List ((Env → M Vl) × (Env → M Vl))) : Env → M Vl := fun ρ => M.bind (prs l ρ) fun ps => M.bind (frzsM (ps.map (·.2))) fun ds => match keysD ps with
  | some ks => fin (mergeD [] (ks.zip ds))
  | none => nope
def FinD (X : Cx) (fin : DKv → M Vl) : Prop := ∀ (μ1 : Mp) (H1 : Hp) (D : Addr) (μ : Mp) (H : Hp) (st st0 : Sto) (vs : List (Key × V)) (ds : DKv) (Q : VK) (E : XK), H1 D = none → RSt X.K μ1 H1 st0 → Kp μ1 H1 μ H → (∀ a o, H1 a = some o → some a ∉ μ1.c → H a = some o ∧ some a ∉ μ.c) → μ.h = D :: μ1.h → μ1.c.length ≤ μ.c.length → RSt X.K μ H st →
  H D = some (.dK vs) → RPk X.K μ H vs ds → Post X.K X.mg (RV X.K X.mg) μ1 H1 Q E (fin ds st) → Q (.ref D) H
theorem find_frz : FinD X fun ds => ret (.d (.dict ds)) := by
  intro μ1 H1 D μ H st st0 vs ds Q E eD S1 kp fz hd len S h r P
  have hm : D ∈ μ.h := by rw [hd]; exact List.mem_cons_self
  exact P (.ref D) H ⟨μ.c, μ1.h⟩ ⟨fz, rfl, len, kp.at_⟩ (S.unhide hd) (.d (.dct (.inl h) ⟨S.dis D hm, fun q => S1.hid D q eD⟩ (r.kp (Kp.unhide hd))))
def newDC (ds : DKv) : M Vl := fun st => .ok (.ref st.length) (st ++ [.dct ds])
theorem find_cell : FinD X newDC := by
  intro μ1 H1 D μ2 Hh st2 st0 vs ds Q E eD S1 kp0 fz hd len S h1 h2 P
  have hm : D ∈ μ2.h := by rw [hd]; exact List.mem_cons_self
  have hD : some D ∉ μ2.c := S.dis D hm
  have kp : Kp μ2 Hh ⟨μ2.c ++ [some D], μ1.h⟩ Hh := ⟨fun a u r n => ⟨r, fun q => by
    rcases List.mem_append.mp q with q | q
    · exact n.1 q
    · rw [Option.some.inj (List.mem_singleton.mp q)] at n; exact n.2 hm, fun q => n.2 (by rw [hd]; exact List.mem_cons_of_mem _ q)⟩,
    fun n x h => .inl (by show (μ2.c ++ [some D])[n]? = _; rw [List.getElem?_append_left (List.getElem?_eq_some_iff.mp h).1]; exact h)⟩
  have hl : μ2.c.length = st2.length := S.len
  refine P (.ref D) Hh ⟨μ2.c ++ [some D], μ1.h⟩ ⟨fun a o e n => ?_, rfl, by simp; omega, (kp0.trans kp).at_⟩ ⟨by simp [hl], fun a ha => S.hid a (by rw [hd]; exact List.mem_cons_of_mem _ ha), fun a ha q => ?_, fun i j a e1 e2 => ?_, fun n x c e1 e2 => ?_⟩ (.ref (.inl ?_))
  · obtain ⟨e1, n1⟩ := fz a o e n
    refine ⟨e1, fun q => ?_⟩
    rcases List.mem_append.mp q with q | q
    · exact n1 q
    · rw [Option.some.inj (List.mem_singleton.mp q)] at e; rw [eD] at e; cases e
  · rcases List.mem_append.mp q with q | q
    · exact S.dis a (by rw [hd]; exact List.mem_cons_of_mem _ ha) q
    · rw [Option.some.inj (List.mem_singleton.mp q)] at ha; exact S1.hid D ha eD
  · have out : ∀ k : Nat, (μ2.c ++ [some D])[k]? = some (some a) → (k < μ2.c.length ∧ μ2.c[k]? = some (some a)) ∨ (k = μ2.c.length ∧ a = D) := by
      intro k h
      by_cases q : k < μ2.c.length
      · rw [List.getElem?_append_left q] at h; exact .inl ⟨q, h⟩
      · rw [List.getElem?_append_right (by omega)] at h
        have : k - μ2.c.length = 0 := by
          have := (List.getElem?_eq_some_iff.mp h).1
          simp at this; omega
        rw [this] at h
        simp at h
        exact .inr ⟨by omega, h.symm⟩
    rcases out i e1 with ⟨_, a1⟩ | ⟨a1, a2⟩
    · rcases out j e2 with ⟨_, b1⟩ | ⟨b1, b2⟩
      · exact S.nd i j a a1 b1
      · subst b2; exact absurd (List.mem_of_getElem? a1) hD
    · rcases out j e2 with ⟨_, b1⟩ | ⟨b1, b2⟩
      · subst a2; exact absurd (List.mem_of_getElem? b1) hD
      · omega
  · replace e1 : (μ2.c ++ [some D])[n]? = some x := e1
    by_cases q : n < μ2.c.length
    · rw [List.getElem?_append_left q] at e1
      rw [List.getElem?_append_left (by omega)] at e2
      exact (S.cell n x c e1 e2).kp kp fun _ _ => rfl
    · rw [List.getElem?_append_right (by omega)] at e1
      rw [List.getElem?_append_right (by omega)] at e2
      have q0 : n - μ2.c.length = 0 := by
        have := (List.getElem?_eq_some_iff.mp e1).1
        simp at this; omega
      have q1 : n - st2.length = 0 := by omega
      rw [q0] at e1; rw [q1] at e2
      simp at e1 e2
      subst e1; subst e2
      exact ⟨vs, h1, h2.kp kp⟩
  · show (μ2.c ++ [some D])[st2.length]? = _
    rw [List.getElem?_append_right (by omega)]
    simp [hl]
theorem ev_disp {fin : DKv → M Vl} (hf : FinD X fin) {pos : Pos} {keys : List (Option Expr)} {values : List Expr} {l : List ((Env → M Vl) × (Env → M Vl))} (h : PPs X pos keys values (l.map fun q => (gE X W q.1, gE X W q.2))) (hall : keys.all (·.isSome) = true) (hl : keys.length = values.length) (h0 : keys ≠ []) (h15 : keys.length ≤ 15) (hkl : l.length = keys.length) :
    PE X (.Dict keys values pos) (gE X W (dctG fin l)) := by
  refine (pe_disp h hall hl h0 h15).weak fun σ H Q ⟨μ, ρ, st, re, S, P⟩ p hp => ?_
  unfold dctG at P
  cases e : prs l ρ st with
  | bad => simp only [M.bind, e] at P; exact P.elim
  | ex x st' =>
    exfalso
    clear P h hall hl h0 h15 hkl re S
    have : ∀ (l : List ((Env → M Vl) × (Env → M Vl))) (st st' : Sto) (x : Exn), prs l ρ st ≠ .ex x st' := by
      intro l
      induction l with
      | nil => intro st st' x e; cases e
      | cons q r ih =>
        intro st st' x e
        simp only [prs, M.bind, ex0] at e
        cases e1 : q.1 ρ st with
        | bad => simp [e1] at e
        | ex y st1 => simp [e1] at e
        | ok a st1 =>
          simp only [e1] at e
          cases e2 : q.2 ρ st1 with
          | bad => simp [e2] at e
          | ex y st1 => simp [e2] at e
          | ok b st2 =>
            simp only [e2] at e
            cases e3 : prs r ρ st2 with
            | bad => simp [e3] at e
            | ok c st3 => simp [e3, ret] at e
            | ex y st3 => exact ih _ _ _ e3
    exact this l st st' x e
  | ok ps st' =>
    simp only [M.bind, e] at P
    have kpH : Kp μ H ⟨μ.c, p :: μ.h⟩ (upd H p (.dK [])) := Kp.hide hp
    refine prs_run (W := W) l (μ := ⟨μ.c, p :: μ.h⟩) (re.kp kpH) (S.hide hp) e fun vs H2 μ2 g2 S2 rp => ?_
    have hp2 : H2 p = some (.dK []) := (g2.fz p _ upd_same (S.fresh hp).1).1
    cases e2 : frzs st' (ps.map (·.2)) with
    | none => simp only [frzsM, e2] at P; exact P.elim
    | some q =>
      obtain ⟨ds, st3⟩ := q
      simp only [frzsM, e2] at P
      cases e3 : keysD ps with
      | none => rw [e3] at P; exact P.elim
      | some ks =>
        rw [e3] at P
        dsimp only at P
        obtain ⟨k1, k2, k3⟩ := keys_rp rp e3
        obtain ⟨μ3, g3, S3, r3⟩ := frzs_ok S2 k3 e2
        have hm : p ∈ μ3.h := by rw [g3.hd, g2.hd]; exact List.mem_cons_self
        refine ⟨hp2, ks.zip (vs.map (·.2)), k1, ?_, ?_⟩
        · have z1 : ps.length = l.length := by
            clear P e2 e3 rp k1 k2 k3 r3
            have : ∀ (l : List ((Env → M Vl) × (Env → M Vl))) (st st' : Sto) (ps : List (Vl × Vl)), prs l ρ st = .ok ps st' → ps.length = l.length := by
              intro l
              induction l with
              | nil => intro st st' ps e; cases e; rfl
              | cons q r ih =>
                intro st st' ps e
                obtain ⟨a, st1, e1, e⟩ := bind_ok e
                obtain ⟨b, st2, e2, e⟩ := bind_ok e
                obtain ⟨l', st3, e3, e⟩ := bind_ok e
                cases e
                simp [ih _ _ _ e3]
            exact this l st st' ps e
          have : (ks.zip (vs.map (·.2))).length ≤ ks.length := by rw [List.length_zip]; exact Nat.min_le_left _ _
          omega
        · have rk : RPk X.K μ3 (upd H2 p (.dK (mergeK [] (ks.zip (vs.map (·.2)))))) (mergeK [] (ks.zip (vs.map (·.2)))) (mergeD [] (ks.zip ds)) := ((RKs.zip r3).merge .nil).kp (Kp.hid hm)
          refine hf μ H p μ3 _ st3 st _ _ Q _ hp S ((kpH.trans (g2.trans g3).kp).trans (Kp.hid hm)) (fun a o ea na => ?_) (by rw [g3.hd, g2.hd]) (Nat.le_trans g2.len g3.len) (S3.hidUpd hm) upd_same rk P
          have ne : a ≠ p := by intro q; subst q; rw [hp] at ea; cases ea
          obtain ⟨f1, f2⟩ := (g2.trans g3).fz a o (by rw [upd_ne ne]; exact ea) na
          exact ⟨by rw [upd_ne ne]; exact f1, f2⟩
/-- {} -/
theorem ev_d0 {pos : Pos} : PE X (.Dict [] [] pos) (gE X W fun _ => ret (.d (.dict []))) :=
  pe_dnewK.weak fun σ H Q ⟨μ, ρ, st, re, S, P⟩ p hp => by
    obtain ⟨μ3, g3, S3, r3⟩ := newD (X := X) (vs := []) (ds := []) S .nil hp
    exact P _ _ μ3 g3 S3 r3
/-- a new cell, from a rule that lays a new dict -/
theorem newDCell {μ : Mp} {H : Hp} {st : Sto} {vs : List (Key × V)} {ds : DKv} {p : Addr} (S : RSt X.K μ H st) (r : RPk X.K μ H vs ds) (e : H p = none) :
    ∃ μ', Grow μ H μ' (upd H p (.dK vs)) ∧ RSt X.K μ' (upd H p (.dK vs)) (st ++ [.dct ds]) ∧ RV X.K X.mg μ' (upd H p (.dK vs)) (.ref p) (.ref st.length) := by
  have g : Grow μ H (μ.add p) (upd H p (.dK vs)) := Grow.cell S e
  refine ⟨μ.add p, g, S.cellNew e ⟨vs, upd_same, r.step g⟩, .ref (.inl ?_)⟩
  show (μ.c ++ [some p])[st.length]? = _
  rw [← S.len, List.getElem?_append_right (Nat.le_refl _)]
  simp
theorem ev_d0C {pos : Pos} : PE X (.Dict [] [] pos) (gE X W fun _ => newDC []) :=
  pe_dnewK.weak fun σ H Q ⟨μ, ρ, st, re, S, P⟩ p hp => by
    obtain ⟨μ3, g3, S3, r3⟩ := newDCell (X := X) (vs := []) (ds := []) S .nil hp
    exact P _ _ μ3 g3 S3 r3
def pDictC1 : P1 := fun a st => (asL st a).bind fun xs => (pairsD xs).map fun ps => (.ref st.length, st ++ [.dct (mergeD [] ps)])
theorem ok_dictC (hc : X.calm = true) : PrOk X (fun us => call (.type "dict") us) (l1 pDictC1) := by
  refine pr_call (call_dictP hc) fun H xs μ st as res ras S e => ?_
  obtain ⟨a, rfl⟩ := l1_of e
  obtain ⟨x, rfl, ra⟩ := ras.one
  replace e : pDictC1 a st = some res := e
  unfold pDictC1 at e
  cases e1 : asL st a with
  | none => rw [e1] at e; cases e
  | some ds =>
    rw [e1, Option.bind_some] at e
    obtain ⟨ps, e2, rfl⟩ := Option.map_eq_some_iff.mp e
    obtain ⟨p, vs, rfl, hp, r1⟩ := asL_rd S ra e1
    obtain ⟨as, kvs, rfl, h3, h4⟩ := pairs_rp r1 e2
    exact ⟨p, as, kvs, rfl, hp, h3, fun l hl => newDCell S (h4.merge .nil) hl⟩
theorem ok_sortedC (hu : X.A.units + 66 < cLine) : PrOk X (fun us => call (.builtin "sorted") us) (l1 pSortedC1) := by
  intro pins s σ H vs us μ st as res I rv ras S e
  obtain ⟨a, rfl⟩ := l1_of e
  obtain ⟨x, rfl, ra⟩ := ras.one
  obtain ⟨u, rfl, ru⟩ := Vals.one rv
  replace e : pSortedC1 a st = some res := e
  unfold pSortedC1 at e
  obtain ⟨xs, e1, e⟩ := Option.bind_eq_some_iff.mp e
  split at e
  · rename_i ok
    cases e
    exact sorted_core hu I ru ra S e1 ok fun p ws hp r => newCell S r hp
  · cases e
end
end Iv
set_option Elab.async false
set_option linter.all false
set_option maxRecDepth 100000
set_option maxHeartbeats 8000000
/-! Iv8d: comprehensions clause by clause; sets of numbers made by them. -/
namespace Iv
open PySem PySem.Spec PyProof.Rows L2
/-- what is done with an item behind the tests of its clause -/
structure PIn (X : Cx) (inner : Sem Unit) (ti : L2.St → Hp → (Hp → Prop) → Prop) (vs : List Nat) : Prop where
  run : ∀ (pins : List (Addr × Obj)) (s : Shared) (σ : L2.St) (H : Hp) (Nx : Hp → Prop), Inv X pins σ H s → ti σ H Nx →
    wpAny (model X.prog X.w) X.A inner (fun _ s' => ∃ σ' H', Inv X pins σ' H' s' ∧ σ'.length = σ.length ∧ (∀ (j : Nat) v, (wipe σ vs)[j]? = some (some v) → σ'[j]? = some (some v)) ∧ Nx H') (fun _ _ => False) s
/-- a clause's walk -/
def tCl (J : It) (g : TG) (tt : TT) (ti : L2.St → Hp → (Hp → Prop) → Prop) (vs : List Nat) (σ : L2.St) (H : Hp) (Nx : Hp → Prop) : Prop := ∃ W : Nat → Nat → Hp → Prop, (∃ m, W 0 m H) ∧ ∀ i m H, W i m H →
  (J.stop i H ∧ Nx H) ∨ (J.go i H ∧ ∃ N1 : Hp → Prop, (∀ H', N1 H' → ∃ m', m' < m ∧ W (i + 1) m' H') ∧ ∀ x H', J.yld i H x H' → g x (wipe σ vs) H' fun σ2 H2 => wipe σ2 vs = wipe σ vs ∧ tt σ2 H2 fun b H3 => if b = true then ti σ2 H3 N1 else N1 H3)
def testsR (ifs : List Expr) (env : PySem.Env) : Sem Bool := forIn ifs true fun c r => if r = true then do let ok ← isTrue c env (eval c env); pure (ForInStep.yield ok) else pure (ForInStep.yield r)
section
variable {X : Cx} {pins : List (Addr × Obj)} {s : Shared} {σ : L2.St} {H : Hp} {ex : Expr} {k : Nat} {it : Addr} {acc : Value} {tg iter : Expr} {ifs : List Expr} {inner : Sem Unit} {fp : List Addr} {tn : Nat → Heap → Prop} {J : It} {g : TG} {tt : TT} {ti : L2.St → Hp → (Hp → Prop) → Prop} {vs : List Nat}
  {Nx : Hp → Prop} {R : Result → Shared → Prop}
theorem cl_loop (hc : X.calm = true) (hun : X.A.under (Code.compLoop ex k (.ref it) acc X.env) = X.A)
    (hden : (model X.prog X.w).den (Code.compLoop ex k (.ref it) acc X.env) = (compTurn ex k (.ref it) acc X.env).onRaise (fun x => do noteFrame x X.env; theTreesLotGoes x))
    (heq : compTurn ex k (.ref it) acc X.env = (do
      standAt iter.pos
      match ← pyNext (.ref it) with
      | none => pure (.done .next)
      | some v =>
        letOwnedTupleGo tg (.ref it) v
        assign tg X.env v
        let mut ok := true
        for c in ifs do
          if ok then ok ← isTrue c X.env (eval c X.env)
        if ok then inner
        again (.compLoop ex k (.ref it) acc X.env)))
    (T : Turn X.prog X.w X.K tg J fp it tn) (hfp : ∀ σ' H' s', Inv X pins σ' H' s' → (∀ b ∈ fp, H' b = none) → ∀ b ∈ fp, FpOk X pins H' b) (hxe : X.xe = fun _ _ => False)
    (pg : PG X tg g) (pt : PTs X ifs tt) (pin : PIn X inner ti vs) (I0 : Inv X pins (wipe σ vs) H s) (st0 : tn 0 s.heap) (n0 : ∀ b ∈ fp, H b = none) (h : tCl J g tt ti vs σ H Nx)
    (fin : ∀ H' s', Inv X pins (wipe σ vs) H' s' → Nx H' → R (.ok .next) s') : codeAny (model X.prog X.w) X.A (.compLoop ex k (.ref it) acc X.env) R s := by
  obtain ⟨W, ⟨m0, w0⟩, turn⟩ := h
  refine codeAny_loop rfl (fun n s' => ∃ i H', Inv X pins (wipe σ vs) H' s' ∧ tn i s'.heap ∧ (∀ b ∈ fp, H' b = none) ∧ W i n H') (fun n s5 hI => ?_) m0 ⟨0, H, I0, st0, n0, w0⟩
  obtain ⟨i, H5, I5, st5, n5, w5⟩ := hI
  rw [hun]
  rw [hden]
  refine wpAny_noted ?_
  rw [heq]
  have no : ∀ {α : Type} {t : Sem α} {Q Q' : α → Shared → Prop} {E' : Value → Shared → Prop} {s' : Shared}, wpAny (model X.prog X.w) X.A t Q X.xe s' → (∀ a s2, Q a s2 → Q' a s2) → wpAny (model X.prog X.w) X.A t Q' E' s' := fun a b => wpAny_mono a b fun _ _ z => by rw [hxe] at z; exact z.elim
  refine wpAny_bind (wpAny_standAt ?_)
  rcases turn i n H5 w5 with ⟨stop, qq⟩ | ⟨go, N1, hN1, step⟩
  · refine wpAny_bind (thnF (T.done X rfl rfl rfl hc i pins s5 _ H5 (fun _ _ => False) I5 (hfp _ _ _ I5 n5) st5 stop) fun r s6 ⟨hr, I6⟩ => ?_)
    subst hr
    exact wpAny_pure (fin H5 s6 I6 qq)
  · refine wpAny_bind (thnF (T.item X rfl rfl rfl hc i pins s5 _ H5 (fun _ _ => False) I5 (hfp _ _ _ I5 n5) st5 go) fun r s6 ⟨u, hr, h6⟩ => ?_)
    subst hr
    refine wpAny_bind (thnF h6 fun _ s7 ⟨x, H7, I7, r7, y7, st7, n7⟩ => ?_)
    have I7' := I7.pinned (hfp _ _ _ I7 n7) (T.obj _ _ st7)
    refine wpAny_bind (no (pg.run _ s7 _ H7 x u _ I7' r7 (step x H7 y7)) fun _ s8 ⟨σ8, H8, I8, hw8, q8⟩ => ?_)
    refine wpAny_bind (no (pt.run _ s8 σ8 H8 _ I8 q8) fun b s9 ⟨H9, I9, q9⟩ => ?_)
    have back : ∀ {σ' : L2.St} {s' : Shared} {H' : Hp}, Inv X (pins ++ pinsAt fp s7.heap) σ' H' s' → σ'.length = σ8.length → (∀ (j : Nat) v, (wipe σ8 vs)[j]? = some (some v) → σ'[j]? = some (some v)) → N1 H' →
        ∃ m, m < n ∧ ∃ i H', Inv X pins (wipe σ vs) H' s' ∧ tn i s'.heap ∧ (∀ b ∈ fp, H' b = none) ∧ W i m H' := fun {σ' s' H'} I' l1 l2 nx => by
      obtain ⟨m', hm, w'⟩ := hN1 H' nx
      have still : ∀ b ∈ fp, ∀ o, s7.heap.get? b = some o → s'.heap.get? b = some o ∧ H' b = none := fun b hb o e =>
        let z := I'.pin (b, o) (List.mem_append_right _ (List.mem_append_right _ (mem_pinsAt hb e)))
        ⟨z.1, z.2.1⟩
      refine ⟨m', hm, i + 1, H', (I'.unpinned (pins := pins)).weak (by rw [l1, ← hw8, wipe_length]) (fun j v e => l2 j v (by rw [hw8]; exact e)), T.keep _ _ _ st7 fun b hb o e => (still b hb o e).1, fun b hb => ?_, w'⟩
      obtain ⟨o, e, _⟩ := T.obj _ _ st7 b hb
      exact (still b hb o e).2
    cases b with
    | false =>
      rw [if_neg (by exact Bool.false_ne_true)] at q9
      exact wpAny_pure ⟨rfl, back I9 rfl (fun j v e => (wipe_some e).1) q9⟩
    | true =>
      rw [if_pos rfl] at q9
      refine wpAny_bind (thnF (pin.run _ s9 σ8 H9 N1 I9 q9) fun _ s10 ⟨σ10, H10, I10, l1, l2, nx⟩ => ?_)
      exact wpAny_pure ⟨rfl, back I10 l1 l2 nx⟩
/-- a clause begins -/
theorem cl_start {X : Cx} {s : Shared} {elt : Expr} {gens : List Comprehension} {scope : Scope} {pos : Pos} {k : Nat} {it : Addr} {acc : Value} {tg iter : Expr} {ifs : List Expr} {R : Result → Shared → Prop} (hk : gens[k]? = some ⟨tg, iter, ifs, 0⟩)
    (hp : ∀ (Q : Value → Shared → Prop) (E : Value → Shared → Prop), Q (.ref it) s → wpAny (model X.prog X.w) X.A (pyIter (.ref it)) Q E s)
    (h : codeAny (model X.prog X.w) X.A (.compLoop (.SetComp elt gens scope pos) k (.ref it) acc X.env) R s) : codeAny (model X.prog X.w) X.A (.compStart (.SetComp elt gens scope pos) k (.ref it) acc X.env) R s := by
  refine codeAny_of_tree ?_
  show wpAny _ X.A ((compStart (.SetComp elt gens scope pos) k (.ref it) acc X.env).onRaise (fun x => do noteFrame x X.env; standAt theWindowsPlace)) _ _ s
  refine wpAny_notedAt ?_
  unfold compStart
  rw [show (clausesOf (.SetComp elt gens scope pos))[k]? = some ⟨tg, iter, ifs, 0⟩ from hk]
  show wpAny _ _ (ask >>= _) _ _ s
  refine wpAny_bind (wpAny_askSetting (wpAny_ite ?_))
  split
  · first
      | exact wpAny_bind (wpAny_pure (wpAny_pure (And.intro rfl h)))
      | exact wpAny_pure (And.intro rfl h)
  · refine wpAny_bind (wpAny_rule ?_)
    first
      | exact wpAny_bind (wpAny_standAt (wpAny_bind (hp _ _ (wpAny_pure (And.intro rfl h)))))
      | exact wpAny_bind (wpAny_bind (wpAny_standAt (wpAny_bind (hp _ _ (wpAny_pure (And.intro rfl h))))))
/-- a clause within -/
theorem pin_clause {X : Cx} {elt : Expr} {gens : List Comprehension} {scope : Scope} {pos : Pos} {k : Nat} {acc : Value} {tg iter : Expr} {ifs : List Expr} {wi : TI} {g : TG} {tt : TT} {ti : L2.St → Hp → (Hp → Prop) → Prop} {vs vs1 : List Nat} {inner : Sem Unit} (hc : X.calm = true) (hxe : X.xe = fun _ _ => False)
    (hk : gens[k]? = some ⟨tg, iter, ifs, 0⟩)
    (heq : ∀ it : Value, compTurn (.SetComp elt gens scope pos) k it acc X.env = (do
      standAt iter.pos
      match ← pyNext it with
      | none => pure (.done .next)
      | some v =>
        letOwnedTupleGo tg it v
        assign tg X.env v
        let mut ok := true
        for c in ifs do
          if ok then ok ← isTrue c X.env (eval c X.env)
        if ok then inner
        again (.compLoop (.SetComp elt gens scope pos) k it acc X.env)))
    (hs : ∀ x, foldedSetIterable iter X.env x = pure x) (pi : PI X tg iter wi) (pg : PG X tg g) (pt : PTs X ifs tt) (pin : PIn X inner ti vs1) (hv : ∀ i ∈ vs1, i ∈ vs) :
    PIn X (do
      let x ← eval iter X.env
      standAt iter.pos
      let x ← foldedSetIterable iter X.env x
      let _ ← runOwn (.compStart (.SetComp elt gens scope pos) k (← holding [x] (pyIter x)) acc X.env) X.env) (fun σ H Nx => wi σ H fun J H1 => tCl J g tt ti vs1 σ H1 Nx) vs := by
  refine ⟨fun pins s σ H Nx I h => ?_⟩
  have no : ∀ {α : Type} {t : Sem α} {Q Q' : α → Shared → Prop} {E' : Value → Shared → Prop} {s' : Shared}, wpAny (model X.prog X.w) X.A t Q X.xe s' → (∀ a s2, Q a s2 → Q' a s2) → wpAny (model X.prog X.w) X.A t Q' E' s' := fun a b => wpAny_mono a b fun _ _ z => by rw [hxe] at z; exact z.elim
  refine wpAny_bind (no (pi.run pins s σ H _ I h) fun xv s1 hx => ?_)
  refine wpAny_bind (wpAny_standAt (wpAny_bind (wpAny_of_eq (hs xv) (wpAny_bind (wpAny_holding (no hx fun itv s2 h2 => ?_))))))
  obtain ⟨it, fp, tn, J, H2, e, I2, T, st2, f2, q⟩ := h2
  subst e
  refine wpAny_bind (wpAny_runOwn ?_)
  rw [Around.mark_none]
  refine codeAny_mono (R := fun r s' => match r with
    | .ok _ => ∃ σ' H', Inv X pins σ' H' s' ∧ σ'.length = σ.length ∧ (∀ (j : Nat) v, (wipe σ vs)[j]? = some (some v) → σ'[j]? = some (some v)) ∧ Nx H'
    | .error _ => False) (cl_start hk (fun Q E hq => T.self X.A 0 _ _ _ st2 hq) ?_) fun r s' hr => ?_
  · refine cl_loop (σ := σ) (vs := vs1) (Nx := Nx) hc rfl rfl (heq _) T (fun σ' H' s' I' hn b hb => ⟨hn b hb, (f2 b hb).2⟩) hxe pg pt pin (I2.weak (wipe_length _ _) fun j v e => (wipe_some e).1) st2 (fun b hb => (f2 b hb).1) q fun H' s' I' nx => ⟨wipe σ vs1, H', I', wipe_length _ _, fun j v e => ?_, nx⟩
    obtain ⟨e1, e2⟩ := wipe_some e
    rw [wipe_out fun z => e2 (hv j z)]
    exact e1
  · cases r with
    | ok f =>
      first
        | exact wpAny_pure hr
        | exact wpAny_bind (wpAny_pure hr)
    | error e => exact hr.elim
/-- found.add(elt) -/
def tAdd (w : World) (D : Addr) (te : TE) : L2.St → Hp → (Hp → Prop) → Prop := fun σ H Nx => te σ H fun y H4 => ∃ (k : Int) (S : Int → Bool) (n : Nat), y = .int k ∧ H4 D = some (SetO w D S n) ∧ n + 1 < scanBound ∧ Nx (upd H4 D (SetO w D (fun j => S j || decide (j = k)) (if S k = true then n else n + 1)))
theorem pin_add {X : Cx} {D : Addr} {elt : Expr} {te : TE} {vs : List Nat} (hxe : X.xe = fun _ _ => False) (pe : PE X elt te) :
    PIn X (do let v ← eval elt X.env; standAt elt.pos; let _ ← call (.builtin "set.add") [.ref D, v]) (tAdd X.w D te) vs := by
  refine ⟨fun pins s σ H Nx I h => ?_⟩
  have no : ∀ {α : Type} {t : Sem α} {Q Q' : α → Shared → Prop} {E' : Value → Shared → Prop} {s' : Shared}, wpAny (model X.prog X.w) X.A t Q X.xe s' → (∀ a s2, Q a s2 → Q' a s2) → wpAny (model X.prog X.w) X.A t Q' E' s' := fun a b => wpAny_mono a b fun _ _ z => by rw [hxe] at z; exact z.elim
  refine wpAny_bind (no (pe.run pins s σ H _ I h) fun u s1 ⟨y, H1, I1, r1, kk, S, n, ey, hD, hz, nx⟩ => wpAny_bind (wpAny_standAt ?_))
  subst ey
  refine wpAny_bind (no (mt_sadd pins s1 σ H1 (.ref D) [.int kk] (.ref D) [u] (fun _ H' => Nx H') I1 rfl (.cons r1 .nil) ⟨D, kk, S, n, rfl, rfl, hD, hz, nx⟩) fun v s2 ⟨_, H2, I2, _, q2⟩ => ?_)
  exact wpAny_pure ⟨σ, H2, I2, rfl, fun j v e => (wipe_some e).1, q2⟩
/-- {elt for .. in .. if ..}, any clauses behind the first -/
theorem setc_core {X : Cx} {pins : List (Addr × Obj)} {s : Shared} {σ : L2.St} {H : Hp} {Q : VK} {pos' : Pos} {use : Option (Value → Sem Unit)} {Qf : Value → Shared → Prop} (I : Inv X pins σ H s) {elt tg iter : Expr} {ifs : List Expr} {rest : List Comprehension} {scope : Scope} {own : List (Str × Nat)} {pos : Pos} {wi : TI} {g : TG} {tt : TT} {inner : Addr → PySem.Env → Sem Unit} {ti : Addr → L2.St → Hp → (Hp → Prop) → Prop} (hc : X.calm = true) (hN : X.N.Nodup) (hi : PI X tg iter wi) (ok : BlkOk X.N X.env.scope scope own)
    (hg : ∀ (s : Shared) (H : Hp) (C : Addr) (cl : List (Str × Addr)) (fp : List Addr), PG (X.blk s H scope (compEnvC scope cl C X.env) fp) tg g) (ht : ∀ (s : Shared) (H : Hp) (C : Addr) (cl : List (Str × Addr)) (fp : List Addr), PTs (X.blk s H scope (compEnvC scope cl C X.env) fp) ifs tt)
    (hs : ∀ x, foldedSetIterable iter X.env x = pure x)
    (heq : ∀ (D : Addr) (it : Value) (env : PySem.Env), compTurn (.SetComp elt (⟨tg, iter, ifs, 0⟩ :: rest) scope pos) 0 it (.ref D) env = (do
      standAt iter.pos
      match ← pyNext it with
      | none => pure (.done .next)
      | some v =>
        letOwnedTupleGo tg it v
        assign tg env v
        let mut ok := true
        for c in ifs do
          if ok then ok ← isTrue c env (eval c env)
        if ok then inner D env
        again (.compLoop (.SetComp elt (⟨tg, iter, ifs, 0⟩ :: rest) scope pos) 0 it (.ref D) env)))
    (hin : ∀ (D : Addr) (s : Shared) (H : Hp) (C : Addr) (cl : List (Str × Addr)) (fp : List Addr), PIn (X.blk s H scope (compEnvC scope cl C X.env) fp) (inner D (compEnvC scope cl C X.env)) (ti D) (own.map (·.2)))
    (h : wi σ H fun J H1 => ∀ D, H1 D = none → tCl J g tt (ti D) (own.map (·.2)) σ (upd H1 D (SetO X.w D (fun _ => false) 0)) fun H' => Q (.ref D) H')
    (hRR : ∀ D C s' m H', Inv X pins σ H' s' → Q (.ref D) H' → s'.heap.Ns C m → FpOk X pins H' C → compPost (model X.prog X.w) X.A X.xe use Qf (.ref D) C (.ok .next) s') :
    wpAny (model X.prog X.w) X.A (comprehension (.SetComp elt (⟨tg, iter, ifs, 0⟩ :: rest) scope pos) scope X.env pos' (newSet (.type "set")) false (eval iter X.env) use) Qf X.xe s := by
  have hfree : ∀ y ∈ scope.names, y.2 = .free → ∃ c, X.env.cells.lookup y.1 = some c := fun y hy e => (ok.free y hy e).elim (fun k => I.ok.has _ (.inl k)) fun k => I.ok.has _ (.inr k)
  refine wpAny_comprehension_free (use := use) rfl hs (closure_ok hfree) ok.kind (fun y hy e => by rw [ok.uniq y hy, e]) (thn (hi.run pins s σ H _ I h) fun xv s1 hx => thn hx fun itv s2 h2 => ?_)
  obtain ⟨it, fp, tn, J, HA, e, I2, T, st2, f2, q⟩ := h2
  subst e
  refine PpSet.newSet_ok (newEnv_comp ?_)
  generalize hD : s2.heap.objs.size = D
  have hDn : HA D = none := I2.hok.fresh (Nat.le_of_eq hD)
  have w0 := q D hDn
  generalize hs3 : ({ s2 with heap := s2.heap.push { cls := .type "set", dict := none, data := .set #[] 0 (.fresh 0 0 (!X.w.params.followText "set-order")) } } : Shared) = sA
  have kA : ∀ b o, s2.heap.get? b = some o → sA.heap.get? b = some o := fun b o e => by rw [← hs3]; exact Heap.get?_push_of_some _ e
  have zA : sA.heap.objs.size = s2.heap.objs.size + 1 := by rw [← hs3]; exact Heap.size_push ..
  have IA : Inv X pins σ (upd HA D (SetO X.w D (fun _ => false) 0)) sA := by
    rw [← hs3]
    refine I2.laid (t' := s2.toks) (fun b o e => Heap.get?_push_of_some _ e) (Nat.le_of_eq hD) ?_
    rw [← hD]
    exact setO_new (setR_fresh X.w)
  have fA : ∀ b ∈ fp, FpOk X pins (upd HA D (SetO X.w D (fun _ => false) 0)) b ∧ b < sA.heap.objs.size := fun b hb => by
    obtain ⟨o, e, _⟩ := T.obj _ _ st2 b hb
    have lt := Heap.lt_size e
    exact ⟨⟨by rw [upd_ne (by rw [← hD]; exact Nat.ne_of_lt lt)]; exact (f2 b hb).1, (f2 b hb).2⟩, by rw [zA]; exact Nat.lt_succ_of_lt lt⟩
  generalize upd HA D (SetO X.w D (fun _ => false) 0) = HB at IA fA w0
  have IB := block_start IA ok hN fA
  generalize hcl : cellsFrom (sA.heap.objs.size + 1) scope.names (cloFrom X.env.cells scope.names []) = cl at IB ⊢
  have pg := hg sA HB sA.heap.objs.size cl fp
  have pt := ht sA HB sA.heap.objs.size cl fp
  have pin := hin D sA HB sA.heap.objs.size cl fp
  show codeAny _ _ (.compStart (.SetComp elt (⟨tg, iter, ifs, 0⟩ :: rest) scope pos) 0 (.ref it) (.ref D) (compEnvC scope cl sA.heap.objs.size X.env)) (compPost (model X.prog X.w) X.A X.xe use Qf (.ref D) sA.heap.objs.size) { sA with heap := pushCells (sA.heap.push { cls := .type "dict", data := .dict #[] }) scope.names }
  generalize hce : compEnvC scope cl sA.heap.objs.size X.env = ce at IB pg pt pin ⊢
  have cL : ce.locals = sA.heap.objs.size := by subst hce; rfl
  generalize hsB : ({ sA with heap := pushCells (sA.heap.push { cls := .type "dict", data := .dict #[] }) scope.names } : Shared) = sB at IB ⊢
  have stB : tn 0 sB.heap := T.keep _ _ _ st2 fun b _ o e => by rw [← hsB]; exact pushCells_keeps _ _ _ _ (Heap.get?_push_of_some _ (kA b o e))
  refine cl_start (X := X.blk sA HB scope ce fp) rfl (fun Q E hq => T.self X.A 0 _ _ _ stB hq) ?_
  refine cl_loop (X := X.blk sA HB scope ce fp) (σ := σ) (vs := own.map (·.2)) (pins := []) hc rfl rfl (heq D (.ref it) ce) T (fun σ' H' s' I' hn b hb =>
    ⟨hn b hb, (I'.ok.exf b hb).1, I'.ok.exfs b hb, .inl hb, fun x c e => (I'.ok.exf b hb).2 x c e, fun p hp => absurd (show p ∈ ([] : List (Addr × Obj)) ++ [] from hp) (by simp)⟩) rfl pg pt pin IB stB (fun b hb => (fA b hb).1.1) w0 fun H' s' I' nx => ?_
  have IC : Inv X pins σ H' s' := IA.call' (ch := fp) I'.os I'.base I'.hok I'.bare fun b hb => ⟨(fA b hb).1.2.2.2.1, (fA b hb).1.2.1, (fA b hb).1.2.2.2.2.1, (fA b hb).1.2.2.2.2.2⟩
  have nC : H' sA.heap.objs.size = none := by
    have z : H' ce.locals = none := I'.free
    rw [cL] at z
    exact z
  obtain ⟨m, hn, _⟩ := I'.loc
  replace hn : s'.heap.Ns ce.locals m := hn
  rw [cL] at hn
  exact hRR D sA.heap.objs.size s' m H' IC nx hn (IA.fpOk (Nat.le_refl sA.heap.objs.size) nC)
abbrev tSetc (w : World) (wi : TI) (g : TG) (tt : TT) (ti : Addr → L2.St → Hp → (Hp → Prop) → Prop) (vs : List Nat) : TE := fun σ H Q => wi σ H fun J H1 => ∀ D, H1 D = none → tCl J g tt (ti D) vs σ (upd H1 D (SetO w D (fun _ => false) 0)) fun H' => Q (.ref D) H'
section
variable {X : Cx} {elt tg iter : Expr} {ifs : List Expr} {rest : List Comprehension} {scope : Scope} {own : List (Str × Nat)} {pos : Pos} {wi : TI} {g : TG} {tt : TT} {inner : Addr → PySem.Env → Sem Unit} {ti : Addr → L2.St → Hp → (Hp → Prop) → Prop}
/-- the turns of such a comprehension -/
def SetTurn (elt tg iter : Expr) (ifs : List Expr) (rest : List Comprehension) (scope : Scope) (pos : Pos) (inner : Addr → PySem.Env → Sem Unit) : Prop := ∀ (D : Addr) (it : Value) (env : PySem.Env), compTurn (.SetComp elt (⟨tg, iter, ifs, 0⟩ :: rest) scope pos) 0 it (.ref D) env = (do
      standAt iter.pos
      match ← pyNext it with
      | none => pure (.done .next)
      | some v =>
        letOwnedTupleGo tg it v
        assign tg env v
        let mut ok := true
        for c in ifs do
          if ok then ok ← isTrue c env (eval c env)
        if ok then inner D env
        again (.compLoop (.SetComp elt (⟨tg, iter, ifs, 0⟩ :: rest) scope pos) 0 it (.ref D) env))
theorem pe_setc (hc : X.calm = true) (hN : X.N.Nodup) (hi : PI X tg iter wi) (ok : BlkOk X.N X.env.scope scope own)
    (hg : ∀ (s : Shared) (H : Hp) (C : Addr) (cl : List (Str × Addr)) (fp : List Addr), PG (X.blk s H scope (compEnvC scope cl C X.env) fp) tg g) (ht : ∀ (s : Shared) (H : Hp) (C : Addr) (cl : List (Str × Addr)) (fp : List Addr), PTs (X.blk s H scope (compEnvC scope cl C X.env) fp) ifs tt)
    (hs : ∀ x, foldedSetIterable iter X.env x = pure x) (heq : SetTurn elt tg iter ifs rest scope pos inner)
    (hin : ∀ (D : Addr) (s : Shared) (H : Hp) (C : Addr) (cl : List (Str × Addr)) (fp : List Addr), PIn (X.blk s H scope (compEnvC scope cl C X.env) fp) (inner D (compEnvC scope cl C X.env)) (ti D) (own.map (·.2))) :
    PE X (.SetComp elt (⟨tg, iter, ifs, 0⟩ :: rest) scope pos) (tSetc X.w wi g tt ti (own.map (·.2))) := by
  refine ⟨fun pins s σ H Q I h => ?_⟩
  rw [PpSet.eval_SetComp]
  refine setc_core I hc hN hi ok hg ht hs heq hin h fun D C s' m H' I' q hn f => ⟨m, hn, fun h'' sb => ?_⟩
  obtain ⟨f0, f1, f2', f3, f4, f5⟩ := f
  exact ⟨.ref D, H', I'.turned (t' := s'.toks) (fun b o hb e => (sb.2 b hb).trans e) f0 f1 f3 f4 f5, rfl, q⟩
/-- name = {..} on one line, the name a local -/
theorem ps_setSc {i : Nat} {y : Str} {py spos : Pos} (hy : X.N[i]? = some y) (hyl : X.env.scope.names.lookup y = some .local)
    (hsw : swapsWith (.SetComp elt (⟨tg, iter, ifs, 0⟩ :: rest) scope pos) (some (.Name y py)) spos.line X.env = pure true) (hc : X.calm = true) (hN : X.N.Nodup) (hi : PI X tg iter wi) (ok : BlkOk X.N X.env.scope scope own)
    (hg : ∀ (s : Shared) (H : Hp) (C : Addr) (cl : List (Str × Addr)) (fp : List Addr), PG (X.blk s H scope (compEnvC scope cl C X.env) fp) tg g) (ht : ∀ (s : Shared) (H : Hp) (C : Addr) (cl : List (Str × Addr)) (fp : List Addr), PTs (X.blk s H scope (compEnvC scope cl C X.env) fp) ifs tt)
    (hs : ∀ x, foldedSetIterable iter X.env x = pure x) (heq : SetTurn elt tg iter ifs rest scope pos inner)
    (hin : ∀ (D : Addr) (s : Shared) (H : Hp) (C : Addr) (cl : List (Str × Addr)) (fp : List Addr), PIn (X.blk s H scope (compEnvC scope cl C X.env) fp) (inner D (compEnvC scope cl C X.env)) (ti D) (own.map (·.2))) :
    PS X (.Assign [.Name y py] (.SetComp elt (⟨tg, iter, ifs, 0⟩ :: rest) scope pos) spos) (tAsg (tSetc X.w wi g tt ti (own.map (·.2))) (gName i)) := by
  refine ⟨fun pins s σ H D I h => ?_⟩
  rw [exec_Assign_Name_used _ _ _ _ hsw]
  refine wpAny_bind (wpAny_standAt (wpAny_bind ?_))
  show wpAny _ X.A (do let _ ← comprehension (.SetComp elt (⟨tg, iter, ifs, 0⟩ :: rest) scope pos) scope X.env (firstIterPos (⟨tg, iter, ifs, 0⟩ :: rest) pos) (newSet (.type "set")) false (eval iter X.env) (some (assign (.Name y py) X.env))) _ _ s
  replace h : tSetc X.w wi g tt ti (own.map (·.2)) σ H (fun x H1 => gName i x σ H1 D.nx) := h
  refine wpAny_bind (thn (setc_core (Q := fun x H1 => gName i x σ H1 D.nx) (Qf := fun _ s' => SP X pins D .next s') I hc hN hi ok hg ht hs heq hin h fun L C s' m H' I' q hn f => ?_) fun _ s' hq => wpAny_pure (wpAny_pure hq))
  show wpAny _ _ (assign (.Name y py) X.env (.ref L)) _ _ _
  refine wpAny_assign_Name (store_ok2 (v := V.ref L) I' hN hy (.inl hyl) rfl (fun s2 I2 ⟨a, sb, ha⟩ => ?_) (.inr hyl))
  obtain ⟨f0, f1, f2', f3, f4, f5⟩ := f
  have haC : C ≠ a := ha.elim (fun z => by rw [z]; exact f1) fun z e => f4 y a z e.symm
  exact ⟨m, hn.sameBut sb haC, fun hC sbC => ⟨_, H', I2.turned (t' := s2.toks) (fun b o hb e => (sbC.2 b hb).trans e) f0 f1 f3 f4 f5, q⟩⟩
theorem swS_true {gs : List Comprehension} {y : Str} {py : Pos} {l : Nat} {env : PySem.Env} (hk : env.scope.kind = .function) (hy : env.scope.names.lookup y = some .local) (hl : (py.line == pos.line) = true)
    (ha : (scope.names.any fun (n, k) => n == y && (k == .local || k == .cell)) = false) : swapsWith (.SetComp elt gs scope pos) (some (.Name y py)) l env = pure true := by
  have ky : env.kindOf y = some .local := hy
  have hb : env.blockKind = .function := by unfold Env.blockKind; rw [hk]; rfl
  unfold swapsWith
  simp only [hb, ky, ha, Expr.pos, hl]
  rfl
/-- what is done behind a first clause's tests: the second one walks -/
def innerCl (node : Expr) (iter1 : Expr) : Addr → PySem.Env → Sem Unit := fun D env => do
  let x ← eval iter1 env
  standAt iter1.pos
  let x ← foldedSetIterable iter1 env x
  let _ ← runOwn (.compStart node 1 (← holding [x] (pyIter x)) (.ref D) env) env
theorem setTurn2 {tg1 iter1 : Expr} {ifs1 : List Expr} : SetTurn elt tg iter ifs [⟨tg1, iter1, ifs1, 0⟩] scope pos (innerCl (.SetComp elt [⟨tg, iter, ifs, 0⟩, ⟨tg1, iter1, ifs1, 0⟩] scope pos) iter1) := by
  intro D it env
  have e : compTurn (.SetComp elt [⟨tg, iter, ifs, 0⟩, ⟨tg1, iter1, ifs1, 0⟩] scope pos) 0 it (.ref D) env = (do
      standAt iter.pos
      match ← pyNext it with
      | none => pure (.done .next)
      | some v =>
        letOwnedTupleGo tg it v
        assign tg env v
        let mut ok := true
        for c in ifs do
          if ok then ok ← isTrue c env (eval c env)
        if ok then
          let x ← eval iter1 env
          standAt iter1.pos
          let x ← foldedSetIterable iter1 env x
          let _ ← runOwn (.compStart (.SetComp elt [⟨tg, iter, ifs, 0⟩, ⟨tg1, iter1, ifs1, 0⟩] scope pos) 1 (← holding [x] (pyIter x)) (.ref D) env) env
        again (.compLoop (.SetComp elt [⟨tg, iter, ifs, 0⟩, ⟨tg1, iter1, ifs1, 0⟩] scope pos) 0 it (.ref D) env)) := rfl
  rw [e]
  unfold innerCl
  simp only [bind_assoc, pure_bind]
end
end
end Iv
set_option Elab.async false
set_option linter.all false
set_option maxRecDepth 100000
set_option maxHeartbeats 8000000
/-! Iv8e: sets of numbers: made, asked, added to, sorted. -/
namespace Iv
open PySem PySem.Spec PyProof.Rows L2
def insK (ks : List Int) (k : Int) : List Int := if ks.contains k = true then ks else ks ++ [k]
theorem insK_nodup {ks : List Int} {k : Int} (h : ks.Nodup) : (insK ks k).Nodup := by
  unfold insK
  split
  · exact h
  · rename_i q
    refine List.nodup_append.mpr ⟨h, by simp, fun a ha b hb => ?_⟩
    rw [List.mem_singleton.mp hb]
    intro e
    exact q (by rw [← e]; simpa using ha)
theorem mem_insK {ks : List Int} {k j : Int} : j ∈ insK ks k ↔ j ∈ ks ∨ j = k := by
  unfold insK
  split
  · rename_i q
    have q : k ∈ ks := by simpa using q
    exact ⟨.inl, fun h => h.elim id fun e => by rw [e]; exact q⟩
  · simp
theorem setO_ins {w : World} {a : Addr} {ks : List Int} {k : Int} :
    SetO w a (fun j => ks.contains j || decide (j = k)) (if ks.contains k = true then ks.length else ks.length + 1) = SetO w a (fun j => (insK ks k).contains j) (insK ks k).length := by
  have e1 : (fun j => ks.contains j || decide (j = k)) = fun j => (insK ks k).contains j := by
    funext j
    rw [Bool.eq_iff_iff]
    simp [mem_insK]
  have e2 : (if ks.contains k = true then ks.length else ks.length + 1) = (insK ks k).length := by
    unfold insK
    split <;> simp
  rw [e1, e2]
/-- the new set's members so far -/
def scLoop (nx : Nat → Sto → Option (Option PyData)) (body : PyData → List Int → M (List Int)) : Nat → Nat → List Int → M (List Int)
  | 0, _, _ => nope
  | f + 1, i, acc => fun st => match nx i st with
    | none => .bad
    | some none => .ok acc st
    | some (some d) => M.bind (body d acc) (scLoop nx body f (i + 1)) st
def scOne (asg : Asg) (tt : Env → M Bool) (inner : Env → List Int → M (List Int)) (ρ : Env) : PyData → List Int → M (List Int) := fun d acc => match asg d ρ with
  | none => nope
  | some ρ2 => M.bind (noEx (tt ρ2)) fun b => if b = true then inner ρ2 acc else ret acc
def addK (acc : List Int) : Vl → M (List Int)
  | .d (.int k) => if acc.length + 1 < scanBound then ret (insK acc k) else nope
  | _ => nope
def scAdd (te : Env → M Vl) : Env → List Int → M (List Int) := fun ρ acc => M.bind (noEx (te ρ)) (addK acc)
def scW (w : Wk) (own : List Nat) (asg : Asg) (tt : Env → M Bool) (inner : Env → List Int → M (List Int)) (ρ : Env) (acc : List Int) : M (List Int) := scLoop w.nx (scOne asg tt inner (wipeE ρ own)) (w.n + 1) 0 acc
def scCl (own : List Nat) (it : Env → M Wk) (asg : Asg) (tt : Env → M Bool) (inner : Env → List Int → M (List Int)) : Env → List Int → M (List Int) := fun ρ acc => M.bind (noEx (it ρ)) fun w => scW w own asg tt inner ρ acc
def newSC (so : Bool) (ks : List Int) : M Vl := fun st => .ok (.ref st.length) (st ++ [.set so ks])
def scG (so : Bool) (own : List Nat) (it : Env → M Wk) (asg : Asg) (tt : Env → M Bool) (inner : Env → List Int → M (List Int)) : Env → M Vl := fun ρ => M.bind (it ρ) fun w => M.bind (noEx (scW w own asg tt inner ρ [])) (newSC so)
/-- what is told, and nothing let out -/
def PostS {α : Type} (r : Rs α) (k : α → Sto → Prop) : Prop := match r with
  | .ok a st' => k a st'
  | _ => False
theorem PostS.bind {α β : Type} {m : M α} {f : α → M β} {st : Sto} {k : β → Sto → Prop} (h : PostS (M.bind m f st) k) : PostS (m st) fun a st' => PostS (f a st') k := by
  unfold M.bind at h
  unfold PostS at h ⊢
  cases e : m st <;> rw [e] at h <;> exact h
theorem PostS.noEx {α β : Type} {m : M α} {f : α → M β} {st : Sto} {k : β → Sto → Prop} (h : PostS (M.bind (noEx m) f st) k) : ∃ a st', m st = .ok a st' ∧ PostS (f a st') k := by
  unfold M.bind Iv.noEx at h
  unfold PostS at h ⊢
  cases e : m st with
  | ok a st' => rw [e] at h; exact ⟨a, st', rfl, h⟩
  | ex x st' => rw [e] at h; exact h.elim
  | bad => rw [e] at h; exact h.elim
section
variable {X : Cx} {W : WX} {K : PySem.W.Frag} {mg : Str → Option Value}
/-- between two turns -/
structure ScI (X : Cx) (μ1 : Mp) (H1 : Hp) (D : Addr) (μ : Mp) (H : Hp) (st : Sto) (ks : List Int) : Prop where
  kp : Kp μ1 H1 μ H
  fz : ∀ a o, H1 a = some o → some a ∉ μ1.c → H a = some o ∧ some a ∉ μ.c
  hd : μ.h = D :: μ1.h
  len : μ1.c.length ≤ μ.c.length
  S : RSt X.K μ H st
  at_ : H D = some (SetO X.w D (fun k => ks.contains k) ks.length)
  nd : ks.Nodup
theorem ScI.grow {μ1 μ μ' : Mp} {H1 H H' : Hp} {D : Addr} {st st' : Sto} {ks : List Int} (I : ScI X μ1 H1 D μ H st ks) (g : Grow μ H μ' H') (S : RSt X.K μ' H' st') : ScI X μ1 H1 D μ' H' st' ks := by
  have hD : some D ∉ μ.c := I.S.dis D (by rw [I.hd]; exact List.mem_cons_self)
  refine ⟨I.kp.trans g.kp, fun a o e n => ?_, g.hd.trans I.hd, Nat.le_trans I.len g.len, S, (g.fz D _ I.at_ hD).1, I.nd⟩
  obtain ⟨e1, n1⟩ := I.fz a o e n
  exact g.fz a o e1 n1
theorem ScI.push {μ1 μ : Mp} {H1 H : Hp} {D : Addr} {st : Sto} {ks : List Int} {k : Int} (e0 : H1 D = none) (I : ScI X μ1 H1 D μ H st ks) :
    ScI X μ1 H1 D μ (upd H D (SetO X.w D (fun j => ks.contains j || decide (j = k)) (if ks.contains k = true then ks.length else ks.length + 1))) st (insK ks k) := by
  have hm : D ∈ μ.h := by rw [I.hd]; exact List.mem_cons_self
  refine ⟨I.kp.trans (Kp.hid hm), fun a o e n => ?_, I.hd, I.len, I.S.hidUpd hm, by rw [setO_ins]; exact upd_same, insK_nodup I.nd⟩
  obtain ⟨e1, n1⟩ := I.fz a o e n
  exact ⟨by rw [upd_ne (by intro q; subst q; rw [e0] at e; cases e)]; exact e1, n1⟩
/-- an inner step: what it computes, the machine does -/
def SIn (X : Cx) (μ1 : Mp) (H1 : Hp) (D : Addr) (m : Env → List Int → M (List Int)) (ti : L2.St → Hp → (Hp → Prop) → Prop) : Prop :=
  ∀ (σ : L2.St) (ρ : Env) (μ : Mp) (H : Hp) (st : Sto) (ks : List Int) (Nx : Hp → Prop), ScI X μ1 H1 D μ H st ks → RE X.K X.mg μ H σ ρ → PostS (m ρ ks st) (fun ks' st' => ∀ μ' H', Kp μ H μ' H' → ScI X μ1 H1 D μ' H' st' ks' → Nx H') → ti σ H Nx
theorem sin_add {μ1 : Mp} {H1 : Hp} {D : Addr} {te : Env → M Vl} (e0 : H1 D = none) : SIn X μ1 H1 D (scAdd te) (tAdd X.w D (gE X W0 te)) := by
  intro σ ρ μ H st ks Nx I re P
  obtain ⟨v, st1, e, P⟩ := PostS.noEx P
  refine ⟨μ, ρ, st, re, I.S, ?_⟩
  rw [e]
  intro y H2 μ2 g S2 r
  have I2 := I.grow g S2
  unfold addK at P
  split at P
  · rename_i k
    split at P
    · rename_i hz
      cases r with
      | d r =>
        cases r
        exact ⟨k, _, ks.length, rfl, I2.at_, hz, P μ2 _ (g.kp.trans (Kp.hid (by rw [I2.hd]; exact List.mem_cons_self))) (I2.push e0)⟩
    · exact P.elim
  · exact P.elim
theorem sin_loop {μ1 : Mp} {H1 : Hp} {D : Addr} {w : Wk} {J : It} {asg : Asg} {T : List Nat} {tt : Env → M Bool} {inner : Env → List Int → M (List Int)} {ti : L2.St → Hp → (Hp → Prop) → Prop} {vs : List Nat} (hin : SIn X μ1 H1 D inner ti) (hT : ∀ i ∈ T, i ∈ vs)
    {σ : L2.St} {ρ : Env} {μ0 : Mp} {H0 : Hp} {st0 : Sto} {ks0 : List Int} {k : List Int → Sto → Prop} {Nx : Hp → Prop} (rj : RJ X w J μ0 H0) (re : RE X.K X.mg μ0 H0 σ ρ) {μs : Mp} {Hs : Hp} (kps : Kp μ0 H0 μs Hs) (I0 : ScI X μ1 H1 D μs Hs st0 ks0)
    (P0 : PostS (scW w vs asg tt inner ρ ks0 st0) k) (fin : ∀ ks' st' μ' H', Kp μ0 H0 μ' H' → ScI X μ1 H1 D μ' H' st' ks' → k ks' st' → Nx H') : tCl J (gG X asg T) (gT X W0 tt) ti vs σ Hs Nx := by
  refine ⟨fun i m Hh => ∃ μ st ks, Kp μ0 H0 μ Hh ∧ ScI X μ1 H1 D μ Hh st ks ∧ PostS (scLoop w.nx (scOne asg tt inner (wipeE ρ vs)) m i ks st) k, ⟨w.n + 1, μs, st0, ks0, kps, I0, P0⟩, ?_⟩
  rintro i m Hh ⟨μ2, st2, ks, kp2, I, P⟩
  cases m with
  | zero => exact P.elim
  | succ m =>
    have J1 := rj μ2 Hh st2 kp2 I.S i
    simp only [scLoop] at P
    cases e : w.nx i st2 with
    | none => rw [e] at P; exact P.elim
    | some o =>
      cases o with
      | none => rw [e] at P; exact .inl ⟨J1.1 e, fin ks st2 μ2 Hh kp2 I P⟩
      | some d =>
        rw [e] at P
        obtain ⟨j1, j2⟩ := J1.2 d e
        refine .inr ⟨j1, fun H' => ∃ m', m' < m + 1 ∧ ∃ μ st ks, Kp μ0 H0 μ H' ∧ ScI X μ1 H1 D μ H' st ks ∧ PostS (scLoop w.nx (scOne asg tt inner (wipeE ρ vs)) m' (i + 1) ks st) k, fun H' h => h, fun x H2 hy => ?_⟩
        obtain ⟨μ3, g3, S3, r3⟩ := j2 x H2 hy
        have I3 := I.grow g3 S3
        have P := PostS.bind P
        simp only [scOne] at P
        cases e2 : asg d (wipeE ρ vs) with
        | none => rw [e2] at P; exact P.elim
        | some ρ2 =>
          rw [e2] at P
          refine ⟨μ3, wipeE ρ vs, d, ρ2, (RE.wipe re vs).kp (kp2.trans g3.kp), r3, e2, fun σ2 re2 l2 k2 => ⟨?_, μ3, ρ2, st2, re2, S3, ?_⟩⟩
          · have z : wipe σ2 vs = wipe (wipe σ vs) vs := wipe_same l2 fun i hi => k2 i fun q => hi (hT i q)
            rw [z, wipe_wipe]
          · obtain ⟨b, st3, e3, P⟩ := PostS.noEx P
            rw [e3]
            intro b' H3 μ4 g4 S4 hb
            replace hb : b' = b := hb
            subst hb
            have I4 := I3.grow g4 S4
            have kp4 := (kp2.trans g3.kp).trans g4.kp
            cases b' with
            | false => exact ⟨m, Nat.lt_succ_self m, μ4, st3, ks, kp4, I4, P⟩
            | true =>
              refine hin σ2 ρ2 μ4 H3 st3 ks _ I4 (re2.step g4) ?_
              rw [if_pos rfl] at P
              unfold PostS at P ⊢
              cases e5 : inner ρ2 ks st3 with
              | ok ks5 st5 => rw [e5] at P; exact fun μ' H' kp' I' => ⟨m, Nat.lt_succ_self m, μ', st5, ks5, kp4.trans kp', I', P⟩
              | ex x st' => rw [e5] at P; exact P
              | bad => rw [e5] at P; exact P
theorem sin_cl {μ1 : Mp} {H1 : Hp} {D : Addr} {it : Env → M Wk} {asg : Asg} {T : List Nat} {tt : Env → M Bool} {inner : Env → List Int → M (List Int)} {ti : L2.St → Hp → (Hp → Prop) → Prop} {vs : List Nat} (hin : SIn X μ1 H1 D inner ti) (hT : ∀ i ∈ T, i ∈ vs) :
    SIn X μ1 H1 D (scCl vs it asg tt inner) (fun σ H Nx => gI X W0 it σ H fun J H1 => tCl J (gG X asg T) (gT X W0 tt) ti vs σ H1 Nx) := by
  intro σ ρ μ H st ks Nx I re P
  obtain ⟨w, st1, e, P⟩ := PostS.noEx P
  refine ⟨μ, ρ, st, re, I.S, ?_⟩
  rw [e]
  intro J H2 μ2 g S2 rj
  exact sin_loop hin hT rj (re.step g) ⟨fun _ _ a b => ⟨a, b⟩, fun _ _ h => .inl h⟩ (I.grow g S2) P fun ks' st' μ' H' kp' I' q => q μ' H' (g.kp.trans kp') I'
/-- a cell that was hidden is shown -/
theorem cell_show {μ1 μ2 : Mp} {H1 Hh : Hp} {D : Addr} {st0 st2 : Sto} {c : Cell} {Q : VK} {E : XK} (eD : H1 D = none) (S1 : RSt X.K μ1 H1 st0) (kp0 : Kp μ1 H1 μ2 Hh) (fz : ∀ a o, H1 a = some o → some a ∉ μ1.c → Hh a = some o ∧ some a ∉ μ2.c) (hd : μ2.h = D :: μ1.h) (len : μ1.c.length ≤ μ2.c.length) (S : RSt X.K μ2 Hh st2)
    (rc : ∀ μ', Kp μ2 Hh μ' Hh → RC X.K μ' Hh (some D) c) (P : Post X.K X.mg (RV X.K X.mg) μ1 H1 Q E (.ok (.ref st2.length) (st2 ++ [c]))) : Q (.ref D) Hh := by
  have hm : D ∈ μ2.h := by rw [hd]; exact List.mem_cons_self
  have hD : some D ∉ μ2.c := S.dis D hm
  have kp : Kp μ2 Hh ⟨μ2.c ++ [some D], μ1.h⟩ Hh := ⟨fun a u r n => ⟨r, fun q => by
    rcases List.mem_append.mp q with q | q
    · exact n.1 q
    · rw [Option.some.inj (List.mem_singleton.mp q)] at n; exact n.2 hm, fun q => n.2 (by rw [hd]; exact List.mem_cons_of_mem _ q)⟩,
    fun n x h => .inl (by show (μ2.c ++ [some D])[n]? = _; rw [List.getElem?_append_left (List.getElem?_eq_some_iff.mp h).1]; exact h)⟩
  have hl : μ2.c.length = st2.length := S.len
  refine P (.ref D) Hh ⟨μ2.c ++ [some D], μ1.h⟩ ⟨fun a o e n => ?_, rfl, by simp; omega, (kp0.trans kp).at_⟩ ⟨by simp [hl], fun a ha => S.hid a (by rw [hd]; exact List.mem_cons_of_mem _ ha), fun a ha q => ?_, fun i j a e1 e2 => ?_, fun n x c' e1 e2 => ?_⟩ (.ref (.inl ?_))
  · obtain ⟨e1, n1⟩ := fz a o e n
    refine ⟨e1, fun q => ?_⟩
    rcases List.mem_append.mp q with q | q
    · exact n1 q
    · rw [Option.some.inj (List.mem_singleton.mp q)] at e; rw [eD] at e; cases e
  · rcases List.mem_append.mp q with q | q
    · exact S.dis a (by rw [hd]; exact List.mem_cons_of_mem _ ha) q
    · rw [Option.some.inj (List.mem_singleton.mp q)] at ha; exact S1.hid D ha eD
  · have out : ∀ k : Nat, (μ2.c ++ [some D])[k]? = some (some a) → (k < μ2.c.length ∧ μ2.c[k]? = some (some a)) ∨ (k = μ2.c.length ∧ a = D) := by
      intro k h
      by_cases q : k < μ2.c.length
      · rw [List.getElem?_append_left q] at h; exact .inl ⟨q, h⟩
      · rw [List.getElem?_append_right (by omega)] at h
        have : k - μ2.c.length = 0 := by
          have := (List.getElem?_eq_some_iff.mp h).1
          simp at this; omega
        rw [this] at h
        simp at h
        exact .inr ⟨by omega, h.symm⟩
    rcases out i e1 with ⟨_, a1⟩ | ⟨a1, a2⟩
    · rcases out j e2 with ⟨_, b1⟩ | ⟨b1, b2⟩
      · exact S.nd i j a a1 b1
      · subst b2; exact absurd (List.mem_of_getElem? a1) hD
    · rcases out j e2 with ⟨_, b1⟩ | ⟨b1, b2⟩
      · subst a2; exact absurd (List.mem_of_getElem? b1) hD
      · omega
  · replace e1 : (μ2.c ++ [some D])[n]? = some x := e1
    by_cases q : n < μ2.c.length
    · rw [List.getElem?_append_left q] at e1
      rw [List.getElem?_append_left (by omega)] at e2
      exact (S.cell n x c' e1 e2).kp kp fun _ _ => rfl
    · rw [List.getElem?_append_right (by omega)] at e1
      rw [List.getElem?_append_right (by omega)] at e2
      have q0 : n - μ2.c.length = 0 := by
        have := (List.getElem?_eq_some_iff.mp e1).1
        simp at this; omega
      have q1 : n - st2.length = 0 := by omega
      rw [q0] at e1; rw [q1] at e2
      simp at e1 e2
      subst e1; subst e2
      exact rc _ kp
  · show (μ2.c ++ [some D])[st2.length]? = _
    rw [List.getElem?_append_right (by omega)]
    simp [hl]
theorem sc_empty {w : World} {D : Addr} : SetO w D (fun _ => false) 0 = SetO w D (fun k => ([] : List Int).contains k) ([] : List Int).length := rfl
/-- the whole comprehension -/
theorem ev_sc {so : Bool} (hso : so = X.w.params.followText "set-order") {it : Env → M Wk} {asg : Asg} {T : List Nat} {tt : Env → M Bool} {inner : Env → List Int → M (List Int)} {ti : Addr → L2.St → Hp → (Hp → Prop) → Prop} {vs : List Nat} (hin : ∀ μ1 H1 D, H1 D = none → SIn X μ1 H1 D inner (ti D)) (hT : ∀ i ∈ T, i ∈ vs)
    {σ : L2.St} {H : Hp} {Q : VK} (h : gE X W (scG so vs it asg tt inner) σ H Q) :
    gI X W it σ H fun J H1 => ∀ D, H1 D = none → tCl J (gG X asg T) (gT X W0 tt) (ti D) vs σ (upd H1 D (SetO X.w D (fun _ => false) 0)) fun H' => Q (.ref D) H' := by
  obtain ⟨μ, ρ, st, re, S, h⟩ := h
  refine ⟨μ, ρ, st, re, S, h.bind.mono fun J H1 _ _ _ _ _ _ _ ⟨w, st1, μ1, g, S1, rj, p⟩ D eD => ?_⟩
  replace rj : RJ X w J μ1 H1 := rj
  refine sin_loop (k := fun ks st' => Post X.K X.mg (RV X.K X.mg) μ1 H1 Q (fun cls d H' => W cls d σ H') (newSC so ks st')) (hin μ1 H1 D eD) hT rj (re.step g) (Kp.hide eD) (st0 := st1) (ks0 := [])
    ⟨Kp.hide eD, fun a o e n => ⟨by rw [upd_ne (by intro q; subst q; rw [eD] at e; cases e)]; exact e, n⟩, rfl, Nat.le_refl _, S1.hide eD, by rw [sc_empty]; exact upd_same, List.nodup_nil⟩ ?_ fun ks' st' μ' H' kp' I' q => ?_
  · unfold PostS
    simp only [M.bind, noEx] at p
    cases e : scW w vs asg tt inner ρ [] st1 with
    | ok a s2 => rw [e] at p; exact p
    | ex x s2 => rw [e] at p; exact p.elim
    | bad => rw [e] at p; exact p.elim
  · refine cell_show (c := .set so ks') eD S1 I'.kp I'.fz I'.hd I'.len I'.S (fun μ'' kp'' => ?_) q
    refine (And.intro ?_ I'.nd : H' D = some (SetC so D ks') ∧ ks'.Nodup)
    rw [hso, setC_eq]
    exact I'.at_
/-- a set's cell -/
def asS (st : Sto) : Vl → Option (Bool × List Int)
  | .ref n => match st[n]? with
    | some (.set so ks) => some (so, ks)
    | _ => none
  | _ => none
theorem asS_rd {μ : Mp} {H : Hp} {st : Sto} {v : V} {a : Vl} {so : Bool} {ks : List Int} (S : RSt X.K μ H st) (r : RV X.K X.mg μ H v a) (e : asS st a = some (so, ks)) : ∃ p n, v = .ref p ∧ a = .ref n ∧ μ.c[n]? = some (some p) ∧ H p = some (SetC so p ks) ∧ ks.Nodup ∧ st[n]? = some (.set so ks) := by
  unfold asS at e
  split at e
  · rename_i n
    split at e
    · rename_i so' ks' hc
      cases e
      cases r with
      | ref r =>
        rename_i p
        rcases r with r | r
        · obtain ⟨h1, h2⟩ := S.cell n _ _ r hc
          exact ⟨p, n, rfl, rfl, r, h1, h2, hc⟩
        · exact (S.cell n _ _ r hc).elim
    · cases e
  · cases e
theorem setC_of {so : Bool} {p : Addr} {ks : List Int} {pins : List (Addr × Obj)} {σ : L2.St} {H : Hp} {s : Shared} (I : Inv X pins σ H s) (h : H p = some (SetC so p ks)) : s.heap.SetOf (intKind X.prog X.w) p (fun k => ks.contains k) ks.length := by
  have z : ObjOk X.prog X.w H s.heap p (.ext fun h => ∃ w : World, w.params.followText "set-order" = so ∧ SetR w h p (fun k => ks.contains k) ks.length) := I.hok p _ h
  obtain ⟨w, _, r⟩ := z.1
  obtain ⟨o, es, ep, t, ho, hx, hd, g, nd, hm, hb, hf, hn, _⟩ := r
  exact ⟨o, es, ep, t, ho, hx, hd, good_elems g, fun k => (hm k).trans (good_mem g k), hb, hf, hn⟩
def pInS2 (neg : Bool) : P2
  | .d (.int k), b => fun st => (asS st b).map fun q => (.d (.bool (neg ^^ q.2.contains k)), st)
  | _, _ => fun _ => none
theorem ok_inS : PrOk X (f2 (compareOp .In)) (l2 (pInS2 false)) := by
  refine pr_op (r := fun x y H Q => ∃ k so a ks, x = V.int k ∧ y = V.ref a ∧ H a = some (SetC so a ks) ∧ Q (.bl (ks.contains k)) H) ?_ fun H x y μ st a b res ra rb S e => ?_
  · intro pins s σ H x y v u Q I rx ry ⟨k, so, a, ks, ex, ey, ha, q⟩
    subst ex ey
    obtain ⟨tk, rfl⟩ := rx
    cases ry
    exact wpAny_inSet_of (intKind_is _ _ _ _) rfl (setC_of I ha) ⟨.bl _, H, I.tok _, rfl, q⟩
  · cases a with
    | d a =>
      cases a with
      | int k =>
        replace e : (asS st b).map (fun q => (Vl.d (.bool (false ^^ q.2.contains k)), st)) = some res := e
        obtain ⟨⟨so, ks⟩, e1, rfl⟩ := Option.map_eq_some_iff.mp e
        obtain ⟨p, n, rfl, rfl, hm, hp, _⟩ := asS_rd S rb e1
        cases ra with
        | d ra => cases ra; exact ⟨k, so, p, ks, rfl, rfl, hp, by simpa using stayV S (.d (.bl _))⟩
      | _ => cases e
    | _ => cases e
theorem ok_notinS : PrOk X (f2 (compareOp .NotIn)) (l2 (pInS2 true)) := by
  refine pr_op (r := fun x y H Q => ∃ k so a ks, x = V.int k ∧ y = V.ref a ∧ H a = some (SetC so a ks) ∧ Q (.bl (!ks.contains k)) H) ?_ fun H x y μ st a b res ra rb S e => ?_
  · intro pins s σ H x y v u Q I rx ry ⟨k, so, a, ks, ex, ey, ha, q⟩
    subst ex ey
    obtain ⟨tk, rfl⟩ := rx
    cases ry
    exact wpAny_notInSet_of (intKind_is _ _ _ _) rfl (setC_of I ha) ⟨.bl _, H, I.tok _, rfl, q⟩
  · cases a with
    | d a =>
      cases a with
      | int k =>
        replace e : (asS st b).map (fun q => (Vl.d (.bool (true ^^ q.2.contains k)), st)) = some res := e
        obtain ⟨⟨so, ks⟩, e1, rfl⟩ := Option.map_eq_some_iff.mp e
        obtain ⟨p, n, rfl, rfl, hm, hp, _⟩ := asS_rd S rb e1
        cases ra with
        | d ra => cases ra; exact ⟨k, so, p, ks, rfl, rfl, hp, by simpa using stayV S (.d (.bl _))⟩
      | _ => cases e
    | _ => cases e
def pLenS1 : P1 := fun a st => (asS st a).map fun q => (.d (.int q.2.length), st)
theorem ok_lenS : PrOk X (fun us => call (.builtin "len") us) (l1 pLenS1) := by
  intro pins s σ H vs us μ st as res I rv ras S e
  obtain ⟨a, rfl⟩ := l1_of e
  replace e : pLenS1 a st = some res := e
  unfold pLenS1 at e
  obtain ⟨⟨so, ks⟩, e1, rfl⟩ := Option.map_eq_some_iff.mp e
  obtain ⟨x, rfl, ra⟩ := ras.one
  obtain ⟨u, rfl, ru⟩ := Vals.one rv
  obtain ⟨p, n, rfl, rfl, hm, hp, _⟩ := asS_rd S ra e1
  cases ru
  obtain ⟨o, es, ep, t, ho, hex, hd, _, _, hb, hf, hn⟩ := setC_of I hp
  refine call_len_set ho hex hd hf (by have := hb; unfold scanBound at this; omega) (EPr.of ⟨.int ks.length, H, I.tok _, ⟨_, by rw [hn]⟩, stayV S (.d (.int _))⟩)
def sortK (ks : List Int) : List Int := ks.mergeSort (fun a b => decide (a ≤ b))
theorem rps_intsE {K : PySem.W.Frag} {μ : Mp} {H : Hp} : ∀ ns : List Int, RPs K μ H (ns.map V.int) (ns.map PyData.int)
  | [] => .nil
  | n :: ns => .cons (.int n) (rps_intsE ns)
/-- sorted of fewer than 64 -/
def pSortedS1 (so : Bool) : P1 := fun a st => (asS st a).bind fun q => if q.1 = so ∧ q.2.length < 64 then some (.d (.list ((sortK q.2).map .int)), st) else none
theorem sortK_uniq {ks ns : List Int} (nd : ks.Nodup) (h1 : ns.Pairwise (· < ·)) (h2 : ∀ k, k ∈ ns ↔ k ∈ ks) : ns = sortK ks := by
  have p : ns.Perm (sortK ks) := by
    have nd1 : ns.Nodup := h1.imp fun {a b} h => Int.ne_of_lt h
    have p1 : ns.Perm ks := (List.perm_ext_iff_of_nodup nd1 nd).mpr h2
    exact p1.trans (List.mergeSort_perm ks _).symm
  refine List.Perm.eq_of_pairwise (le := fun a b => a ≤ b) (fun a b _ _ h h' => Int.le_antisymm h h') (h1.imp fun {a b} h => Int.le_of_lt h) ?_ p
  have z := List.pairwise_mergeSort (le := fun a b : Int => decide (a ≤ b)) (fun a b c h h' => by simp at h h' ⊢; omega) (fun a b => by simp; omega) ks
  exact z.imp fun {a b} h => by simpa using h
theorem ok_sortedS {so : Bool} (hc : X.calm = true) (hso : so = X.w.params.followText "set-order") : PrOk X (fun us => call (.builtin "sorted") us) (l1 (pSortedS1 so)) := by
  refine pr_call (cr_sortedSet hc) fun H xs μ st as res ras S e => ?_
  obtain ⟨a, rfl⟩ := l1_of e
  obtain ⟨x, rfl, ra⟩ := ras.one
  replace e : pSortedS1 so a st = some res := e
  unfold pSortedS1 at e
  cases e1 : asS st a with
  | none => rw [e1] at e; cases e
  | some q =>
    obtain ⟨so', ks⟩ := q
    rw [e1, Option.bind_some] at e
    split at e
    · rename_i hq
      cases e
      obtain ⟨p, n, rfl, rfl, hm, hp, nd, _⟩ := asS_rd S ra e1
      obtain ⟨q1, q2⟩ := hq
      dsimp only at q1 q2
      subst q1
      rw [hso, setC_eq] at hp
      refine ⟨p, _, ks.length, rfl, hp, q2, fun ns l h1 h2 h3 hl => ?_⟩
      have en : ns = sortK ks := sortK_uniq nd h1 fun k => (h2 k).trans (by simp)
      subst en
      exact newL S (rps_intsE _) hl
    · cases e
/-- found.add(k) -/
def pAddS2 (so : Bool) : P2
  | a, .d (.int k) => fun st => match a with
    | .ref n => (asS st a).bind fun q => if q.1 = so ∧ q.2.length + 1 < scanBound then some (.d .none, st.set n (.set so (insK q.2 k))) else none
    | _ => none
  | _, _ => fun _ => none
def isS (so : Bool) (a : Vl) : M Unit := fun st => match asS st a with
  | some q => if q.1 = so then .ok () st else .bad
  | none => .bad
def addS (so : Bool) (f g : Env → M Vl) : Env → M Vl := fun ρ => M.bind (f ρ) fun a => M.bind (isS so a) fun _ => M.bind (g ρ) fun b => lift2 (pAddS2 so) a b
theorem ev_addS {so : Bool} (hso : so = X.w.params.followText "set-order") {o e : Expr} {f g : Env → M Vl} {apos cpos : Pos} (ho : PE X o (gE X W f)) (he : PE X e (gE X W g)) (hbase : attributeBase o "add" X.env (eval o X.env) = eval o X.env) (hline : (apos.endLine == cpos.line) = true) (hs : noStar [e] = true) :
    PE X (.Call (.Attribute o "add" apos) [e] [] cpos) (gE X W (addS so f g)) :=
  (pe_sadd ho (pa_cons he pa_nil (star_cons hs)) hbase (few_ok hs) hline (star_cons hs) (star_any (star_tail hs))).weak fun σ H Q ⟨μ, ρ, st, re, S, h⟩ => gE.then (β := Unit) re S h fun v H1 a st1 μ1 re1 S1 ra g1 h1 => by
    simp only [M.bind, isS] at h1
    cases e1 : asS st1 a with
    | none => rw [e1] at h1; exact h1.elim
    | some q =>
      obtain ⟨so', ks⟩ := q
      rw [e1] at h1
      by_cases hq : so' = so
      · simp only [if_pos hq] at h1
        subst hq
        obtain ⟨p, n, rfl, rfl, hm, hp, nd, _⟩ := asS_rd S1 ra e1
        rw [hso, setC_eq] at hp
        refine ⟨⟨p, _, _, rfl, hp⟩, gE.then (β := Unit) re1 S1 h1 fun w H2 b st2 μ2 re2 S2 rb g2 h3 => ?_⟩
        obtain ⟨μ3, st3, a3, b3, r3, ra3, rb3, S3, e3, q3⟩ := post2 h3 (ra.step g2) rb S2
        unfold pAddS2 at e3
        split at e3
        · rename_i k
          split at e3
          · rename_i n3
            cases e4 : asS st3 (.ref n3) with
            | none => rw [e4] at e3; cases e3
            | some q =>
              obtain ⟨so3, ks3⟩ := q
              rw [e4, Option.bind_some] at e3
              split at e3
              · rename_i hc
                cases e3
                obtain ⟨p3, n4, ep, en, hm3, hp3, nd3, hc3⟩ := asS_rd S3 ra3 e4
                cases ep
                cases en
                obtain ⟨c1, c2⟩ := hc
                dsimp only at c1 c2
                subst c1
                have hp4 := hp3
                rw [hso, setC_eq] at hp4
                cases rb3 with
                | d rb3 =>
                  cases rb3
                  refine ⟨p, k, _, ks3.length, rfl, rfl, hp4, c2, ?_⟩
                  rw [setO_ins]
                  refine q3 .non _ μ3 (Grow.write hm3) (S3.write hm3 ?_) (.d .non)
                  refine (And.intro ?_ (insK_nodup nd3) : _ = some (SetC so3 p (insK ks3 k)) ∧ (insK ks3 k).Nodup)
                  rw [hso, setC_eq]
                  exact upd_same
              · cases e3
          · cases e3
        · cases e3
      · simp only [if_neg hq] at h1
        exact h1.elim
end
end Iv
set_option Elab.async false
set_option linter.all false
set_option maxRecDepth 100000
set_option maxHeartbeats 8000000
/-! Iv8f: a display of one number. -/
namespace Iv
open PySem PySem.Spec PyProof.Rows L2
def isStar : Expr → Bool
  | .Starred .. => true
  | _ => false
/-- {elt} -/
abbrev tOneS (w : World) (te : TE) : TE := fun σ H Q => ∀ D, H D = none → tAdd w D te σ (upd H D (SetO w D (fun _ => false) 0)) fun H' => Q (.ref D) H'
theorem star_one {e : Expr} {env : PySem.Env} (h : isStar e = false) : starEach [e] env = [(false, eval e env)] := by
  cases e <;> first | rfl | (simp [isStar] at h)
theorem pe_oneS {X : Cx} {e : Expr} {te : TE} {pos : Pos} (hp : isStar e = false) (hcd : PySem.W.kdsCode X.K X.env.code = true) (pe : PE X e te) : PE X (.Set [e] 0 pos) (tOneS X.w te) := by
  refine ⟨fun pins s σ H Q I h => ?_⟩
  rw [arm_eval_Set]
  refine wpAny_bind (wpAny_standAt ?_)
  refine wpAny_bind (PySem.W.kds_main I.kIn hcd fun b => ?_)
  rw [star_one hp, show displayRoad 0 [e] = .oneByOne from rfl]
  simp only [List.map_cons, List.map_nil]
  generalize hts : (do let v ← eval e X.env; standAt pos; pure v : Sem Value) = ts
  unfold setDisplay
  try dsimp only
  rw [if_neg (by exact Bool.false_ne_true)]
  refine wpAny_bind (PpSet.newSet_ok ?_)
  dsimp only
  rw [show (if [(false, ts)].length > 30 then 0 else (List.findIdx? (fun x => x.fst) [(false, ts)]).getD [(false, ts)].length) = 1 from rfl, show List.map (fun x => x.snd) (List.take 1 [(false, ts)]) = [ts] from rfl, show List.drop 1 [(false, ts)] = [] from rfl]
  generalize hD : s.heap.objs.size = D
  have hDn : H D = none := I.hok.fresh (Nat.le_of_eq hD)
  have IA : Inv X pins σ (upd H D (SetO X.w D (fun _ => false) 0)) { s with heap := s.heap.push { cls := .type "set", dict := none, data := .set #[] 0 (.fresh 0 0 (!X.w.params.followText "set-order")) } } := by
    refine I.laid (t' := s.toks) (fun b o e => Heap.get?_push_of_some _ e) (Nat.le_of_eq hD) ?_
    rw [← hD]
    exact setO_new (setR_fresh X.w)
  have q := h D hDn
  generalize ({ s with heap := s.heap.push { cls := .type "set", dict := none, data := .set #[] 0 (.fresh 0 0 (!X.w.params.followText "set-order")) } } : Shared) = s1 at IA ⊢
  refine wpAny_bind (wpAny_holding ?_)
  subst hts
  show wpAny _ X.A (((eval e X.env >>= fun v => standAt pos >>= fun _ => pure v) >>= fun v => holding [v] (evalAll []) >>= fun r => pure (v :: r)) >>= _) _ _ _
  refine wpAny_bind (wpAny_bind (wpAny_bind (thn (pe.run pins s1 σ _ _ IA q) fun u s2 ⟨y, H2, I2, r2, k, S, n, ey, hz, room, q2⟩ => ?_)))
  subst ey
  obtain ⟨tk, rfl⟩ := r2
  refine wpAny_bind (wpAny_standAt (wpAny_pure ?_))
  refine wpAny_bind (wpAny_holding (wpAny_pure (wpAny_pure ?_)))
  refine wpAny_bind (wpAny_holding ?_)
  have R := setO_get I2 hz
  have add : ∀ (Q' : Bool → Shared → Prop), (∀ b s', EP X pins σ Q (.ref D) s' → Q' b s') → wpAny (model X.prog X.w) X.A (setAdd D (.int k tk)) Q' X.xe s2 := by
    intro Q' hq
    unfold setAdd
    refine wpAny_holding (wpAny_bind ((intKind X.prog X.w).pyHash (intKind_is X.prog X.w k tk) ?_))
    refine setR_add_hashed (s := { s2 with toks := s2.toks + 1 }) R room fun h' sb new => ?_
    have he : ∃ u, h'.get? D = some u := by
      have ⟨o, _, _, _, ho, _⟩ := new
      exact ⟨o, ho⟩
    exact hq _ _ ⟨.ref D, upd H2 D (SetO X.w D (fun j => S j || decide (j = k)) (if S k = true then n else n + 1)), I2.write (e := D) (t' := s2.toks + 1) (by rw [hz]; trivial) (.inl rfl) (fun b u hb hu => (sb.2 b hb).trans hu) he (setO_new new), rfl, q2⟩
  rw [List.forIn_cons]
  refine wpAny_bind ?_
  refine wpAny_bind (wpAny_bind (add _ fun b s' fin => wpAny_pure ?_))
  dsimp only
  rw [List.forIn_nil]
  refine wpAny_pure ?_
  rw [if_neg (by decide)]
  refine wpAny_pure ?_
  rw [List.forIn_nil]
  exact wpAny_bind (wpAny_pure (wpAny_pure (wpAny_pure fin)))
/-- what it computes -/
def oneS (so : Bool) (te : Env → M Vl) : Env → M Vl := fun ρ => M.bind (noEx (scAdd te ρ [])) (newSC so)
section
variable {X : Cx} {W : WX}
theorem tadd_of {μ1 : Mp} {H1 : Hp} {D : Addr} {te : Env → M Vl} (e0 : H1 D = none) {σ : L2.St} {ρ : Env} {μ : Mp} {H : Hp} {st : Sto} {ks : List Int} {Nx : Hp → Prop} (I : ScI X μ1 H1 D μ H st ks) (re : RE X.K X.mg μ H σ ρ)
    (P : PostS (scAdd te ρ ks st) (fun ks' st' => ∀ μ' H', Kp μ H μ' H' → ScI X μ1 H1 D μ' H' st' ks' → Nx H')) : tAdd X.w D (gE X W te) σ H Nx := by
  obtain ⟨v, st1, e, P⟩ := PostS.noEx P
  refine ⟨μ, ρ, st, re, I.S, ?_⟩
  rw [e]
  intro y H2 μ2 g S2 r
  have I2 := I.grow g S2
  unfold addK at P
  split at P
  · rename_i k
    split at P
    · rename_i hz
      cases r with
      | d r =>
        cases r
        exact ⟨k, _, ks.length, rfl, I2.at_, hz, P μ2 _ (g.kp.trans (Kp.hid (by rw [I2.hd]; exact List.mem_cons_self))) (I2.push e0)⟩
    · exact P.elim
  · exact P.elim
theorem ev_oneS {so : Bool} (hso : so = X.w.params.followText "set-order") {te : Env → M Vl} {σ : L2.St} {H : Hp} {Q : VK} (h : gE X W (oneS so te) σ H Q) : tOneS X.w (gE X W te) σ H Q := by
  intro D eD
  obtain ⟨μ, ρ, st, re, S, p⟩ := h
  refine tadd_of (ks := []) eD (st := st) (μ1 := μ) (H1 := H) (μ := ⟨μ.c, D :: μ.h⟩)
    ⟨Kp.hide eD, fun a o e n => ⟨by rw [upd_ne (by intro q; subst q; rw [eD] at e; cases e)]; exact e, n⟩, rfl, Nat.le_refl _, S.hide eD, by rw [sc_empty]; exact upd_same, List.nodup_nil⟩ (re.kp (Kp.hide eD)) ?_
  unfold PostS
  simp only [oneS, M.bind, noEx] at p
  cases e : scAdd te ρ [] st with
  | ok ks' st' =>
    rw [e] at p
    intro μ' H' kp' I'
    refine cell_show (c := .set so ks') eD S I'.kp I'.fz I'.hd I'.len I'.S (fun μ'' kp'' => ?_) p
    refine (And.intro ?_ I'.nd : H' D = some (SetC so D ks') ∧ ks'.Nodup)
    rw [hso, setC_eq]
    exact I'.at_
  | ex x st' => rw [e] at p; exact p.elim
  | bad => rw [e] at p; exact p.elim
end
end Iv
set_option Elab.async false
set_option linter.all false
set_option maxRecDepth 100000
set_option maxHeartbeats 8000000
/-! Iv8g: set(xs) of a list of ints; xs.extend(ys). -/
namespace Iv
open PySem PySem.Spec PyProof.Rows L2
abbrev newS (w : World) : Obj := { cls := .type "set", dict := none, data := .set #[] 0 (.fresh 0 0 (!w.params.followText "set-order")) }
theorem set_of_list {P : Program} {w : World} {A : Around} {E : Value → Shared → Prop} {s : Shared} {l : Addr} {its : Array Value} (ns : List Int) {Q : Value → Shared → Prop} (hh : A.handled = none) (hl : s.heap.IsList l its) (hi : IntsAre its.toList ns) (hb : ns.length + 1 < scanBound)
    (fin : ∀ (h' : Heap) (tk c : Nat), SetR w h' s.heap.objs.size (fun j => decide (j ∈ ns)) c → (∀ b o, s.heap.get? b = some o → h'.get? b = some o) → Q (.ref s.heap.objs.size) { s with heap := h', toks := tk }) :
    wpAny (model P w) A (call (.type "set") [.ref l]) Q E s := by
  have size : its.size = ns.length := by rw [← Array.length_toList]; exact IntsAre.length hi
  obtain ⟨_, _, hmro⟩ := F.called_set.mro
  have x1 := F.called_set.made; have x2 := F.called_set.sub; have x3 := F.called_set.notType; have x4 := F.called_set.canCreate; have x5 := F.typeCall_set_1 (.ref l)
  refine wpAny_call (codeAny_of_tree (wpAny_pure ⟨Code.quiet_builtin _ (by decide +kernel), codeAny_builtin F.entry_type_call ?_⟩))
  rw [Around.under_plain (weight_type_call_type "set" [.ref l] []) rfl]
  repeat (any_goals (first | assumption | wp_step))
  refine codeAny_mono (code_set_led1 (.ref l) (E := E) (Q₁ := fun v t => v = .ref s.heap.objs.size ∧ t = { s with heap := s.heap.push (newS w) }) ⟨rfl, rfl⟩) fun r t hr => ?_
  cases r with
  | error e => exact hr
  | ok fl =>
    cases fl with
    | ret v =>
      obtain ⟨rfl, rfl⟩ := hr
      have at0 : (s.heap.push (newS w)).get? s.heap.objs.size = some (newS w) := Heap.get?_push_size _ rfl
      have ty0 : Shared.TypeIs { s with heap := s.heap.push (newS w) } (.ref s.heap.objs.size) "set" := ⟨_, at0, rfl⟩
      have y1 := F.called_set.init.lookup; have y2 := F.called_set.init.bind (.ref s.heap.objs.size)
      repeat (any_goals (first | assumption | wp_step))
      refine codeAny_mono (codeAny_call_builtin (R := wants (fun r t => r = .none ∧ ∃ h' tk c, t = { s with heap := h', toks := tk } ∧ SetR w h' s.heap.objs.size (fun j => decide (j ∈ ns)) c ∧ (∀ b o, s.heap.get? b = some o → h'.get? b = some o)) E)
        F.called_set.init.plain F.entry_set_init (check_set_init_1 ty0 ?_)) fun r2 t2 hr2 => ?_
      · obtain ⟨⟨cc, dd, da, sl⟩, ho, hc, nl, hd⟩ := hl
        simp only at hc hd
        subst hc hd
        have ho' : (s.heap.push (newS w)).get? l = some { cls := .type "list", dict := dd, data := .seq its nl, slots := sl } := Heap.get?_push_of_some _ ho
        have z1 := F.sub_list_set; have z2 := F.sub_list_frozenset; have z3 : (Value.type "list" == Value.type "dict") = false := by decide
        have hl1 : (s.heap.push (newS w)).IsList l its := ⟨_, ho', rfl, nl, rfl⟩
        unfold Builtin.«set.__init__» noKeywords Builtin.Frozenset.updateFrom
        generalize hPI : pyIter = PI
        wp_walk
        subst hPI
        refine wpAny_pyIter_list hl1 (wpAny_bind (wpAny_runValue ?_))
        have lt : l < s.heap.objs.size := Heap.lt_size ho
        have hs : A.in1.in1.in1.handled = none := by simp [hh]
        have ne : l ≠ (s.heap.push (newS w)).objs.size := by rw [Heap.size_push]; exact Nat.ne_of_lt (Nat.lt_succ_of_lt lt)
        have nin : s.heap.objs.size ∉ [(s.heap.push (newS w)).objs.size, l] := by
          rw [Heap.size_push]
          intro q
          rcases List.mem_cons.mp q with q | q
          · exact Nat.ne_of_lt (Nat.lt_succ_self _) q
          · exact Nat.ne_of_gt lt (List.mem_singleton.mp q)
        refine set_update_ints ((Walks.list hs _ l ne its).toS) s.heap.objs.size nin ns size hb (fun i v hv => ?_) (its.size - 0) 0 _ (by omega) (Nat.zero_le _) ⟨⟨_, Heap.get?_push_size _ rfl, rfl, rfl⟩, (hl1.push _)⟩ ?zA ?zB
        · have hi2 : i < ns.length := by rw [← size]; exact (Array.getElem?_eq_some_iff.mp hv).1
          obtain ⟨t, e⟩ := PyProof.Rows.IntsAre.int_at hi i v (by rw [Array.getElem?_toList]; exact hv)
          exact ⟨ns[i], t, List.getElem?_eq_getElem hi2, by rw [e, List.getD_eq_getElem?_getD, List.getElem?_eq_getElem hi2]; rfl⟩
        case zA => exact ⟨0, Nat.le_refl 0, setR_new_at (Heap.get?_push_of_some _ at0)⟩
        case zB =>
          intro t' c' mv hc' hS
          obtain ⟨h', g2, d2, k2, o2⟩ := t'
          have e1 : g2 = s.gens := mv.gens
          have e2 : d2 = s.drawn := mv.drawn
          have e3 : o2 = s.os := mv.os
          subst e1 e2 e3
          show wpAny _ _ _ _ _ _
          refine wpAny_pure ?_
          show wpAny _ _ (PySem.ret Value.none) _ _ _
          refine wpAny_pure ⟨rfl, h', k2, c', rfl, hS, fun b o e => mv.heap b o ?_ (Heap.get?_push_of_some _ (Heap.get?_push_of_some _ e))⟩
          have hb0 : b < s.heap.objs.size := Heap.lt_size e
          rw [Heap.size_push]
          intro q
          rcases List.mem_cons.mp q with q | q
          · exact Nat.ne_of_lt hb0 q
          · exact Nat.ne_of_lt (Nat.lt_succ_of_lt hb0) (List.mem_singleton.mp q)
      · cases r2 with
        | error e => exact hr2
        | ok fl2 =>
          cases fl2 with
          | ret r =>
            obtain ⟨rfl, h', tk, c', rfl, hS, hk⟩ := hr2
            repeat (any_goals (first | assumption | wp_step))
            exact fin _ _ _ hS hk
          | _ => exact hr2.elim
    | _ => exact hr.elim
/-- the numbers of a list, each once -/
def setL (ns : List Int) : List Int := ns.foldl (fun ks k => insK ks k) []
theorem setL_mem (ns : List Int) : ∀ (acc : List Int) (k : Int), k ∈ ns.foldl (fun ks k => insK ks k) acc ↔ k ∈ acc ∨ k ∈ ns := by
  induction ns with
  | nil => intro acc k; simp
  | cons n r ih =>
    intro acc k
    rw [List.foldl_cons, ih]
    unfold insK
    split
    · rename_i h
      have h : n ∈ acc := by simpa using h
      constructor
      · rintro (h1 | h1)
        · exact .inl h1
        · exact .inr (List.mem_cons_of_mem _ h1)
      · rintro (h1 | h1)
        · exact .inl h1
        · rcases List.mem_cons.mp h1 with rfl | h1
          · exact .inl h
          · exact .inr h1
    · simp [or_assoc]
theorem setL_nd (ns : List Int) : ∀ (acc : List Int), acc.Nodup → (ns.foldl (fun ks k => insK ks k) acc).Nodup := by
  induction ns with
  | nil => intro acc h; exact h
  | cons n r ih =>
    intro acc h
    rw [List.foldl_cons]
    refine ih _ ?_
    unfold insK
    split
    · exact h
    · rename_i q
      have q : n ∉ acc := by simpa using q
      rw [List.nodup_append]
      exact ⟨h, by simp, fun a ha b hb e => by rw [List.mem_singleton] at hb; subst hb; subst e; exact q ha⟩
theorem mem_setL {ns : List Int} {k : Int} : k ∈ setL ns ↔ k ∈ ns := by unfold setL; rw [setL_mem]; simp
theorem nd_setL (ns : List Int) : (setL ns).Nodup := setL_nd ns [] List.nodup_nil
def intsOfD : List PyData → Option (List Int)
  | [] => some []
  | .int i :: r => (intsOfD r).map (i :: ·)
  | _ :: _ => none
theorem intsOfD_eq : ∀ {ds : List PyData} {ns : List Int}, intsOfD ds = some ns → ds = ns.map .int
  | [], ns, h => by cases h; rfl
  | d :: r, ns, h => by
    cases d with
    | int i =>
      simp only [intsOfD] at h
      obtain ⟨l, h1, rfl⟩ := Option.map_eq_some_iff.mp h
      rw [intsOfD_eq h1]; rfl
    | _ => simp [intsOfD] at h
/-- set(xs) -/
def pSetL1 (so : Bool) : P1 := fun a st => (asL st a).bind fun xs => (intsOfD xs).bind fun ns => if ns.length + 1 < scanBound then some (.ref st.length, st ++ [.set so (setL ns)]) else none
section
variable {X : Cx}
def rSetL1 (w : World) (K : PySem.W.Frag) : List V → Hp → VK → Prop := fun xs H Q => ∃ (l : Addr) (ns : List Int), xs = [V.ref l] ∧ SqL K H l (ns.map V.int) ∧ ns.length + 1 < scanBound ∧ ∀ a, H a = none → Q (.ref a) (upd H a (SetO w a (fun k => (setL ns).contains k) (setL ns).length))
theorem setR_len {w : World} {h : Heap} {a : Addr} {S : Int → Bool} {n : Nat} {ks : List Int} (R : SetR w h a S n) (nd : ks.Nodup) (hm : ∀ k, S k = true ↔ k ∈ ks) : n = ks.length := by
  obtain ⟨o, es, ep, t, ho, hx, hd, g, nd2, hm2, hb, hf, hn, r⟩ := R
  have p : (es.toList.map L2.keyOf).Perm ks := (List.perm_ext_iff_of_nodup nd2 nd).mpr fun k => (hm2 k).symm.trans (hm k)
  have := p.length_eq
  rw [List.length_map, Array.length_toList] at this
  omega
theorem cr_setL (hc : X.calm = true) : CallR X (.type "set") (rSetL1 X.w X.K) := by
  intro pins s σ H xs us Q I r h
  obtain ⟨l, ns, rfl, hl, hb, q⟩ := h
  rw [Vals.ref1 r]
  obtain ⟨its, rv, pl, hz⟩ := I.list hl
  refine set_of_list (P := X.prog) (w := X.w) ns (I.ok.hd hc) pl.isList (by simpa using ints_of_vals rv) hb fun h' tk c R k => ?_
  have e := setR_len R (nd_setL ns) fun k => by rw [decide_eq_true_eq, mem_setL]
  subst e
  refine ⟨.ref s.heap.objs.size, upd H s.heap.objs.size (SetO X.w s.heap.objs.size (fun k => (setL ns).contains k) (setL ns).length), I.laid (t' := tk) k (Nat.le_refl _) (setO_new (R.congr fun j => ?_)), rfl, q _ (I.hok.fresh (Nat.le_refl _))⟩
  have : (j ∈ setL ns) ↔ j ∈ ns := mem_setL
  simp [this]
/-- a new cell that is a set -/
theorem newSetC {so : Bool} (hso : so = X.w.params.followText "set-order") {μ : Mp} {H : Hp} {st : Sto} {ks : List Int} {p : Addr} (S : RSt X.K μ H st) (nd : ks.Nodup) (e : H p = none) :
    ∃ μ', Grow μ H μ' (upd H p (SetO X.w p (fun k => ks.contains k) ks.length)) ∧ RSt X.K μ' (upd H p (SetO X.w p (fun k => ks.contains k) ks.length)) (st ++ [.set so ks]) ∧ RV X.K X.mg μ' (upd H p (SetO X.w p (fun k => ks.contains k) ks.length)) (.ref p) (.ref st.length) := by
  refine ⟨μ.add p, Grow.cell S e, S.cellNew e ⟨?_, nd⟩, .ref (.inl ?_)⟩
  · rw [hso, setC_eq]; exact upd_same
  · show (μ.c ++ [some p])[st.length]? = _
    rw [← S.len, List.getElem?_append_right (Nat.le_refl _)]
    simp
theorem ok_setL {so : Bool} (hc : X.calm = true) (hso : so = X.w.params.followText "set-order") : PrOk X (fun us => call (.type "set") us) (l1 (pSetL1 so)) := by
  refine pr_call (cr_setL hc) fun H xs μ st as res ras S e => ?_
  obtain ⟨a, rfl⟩ := l1_of e
  obtain ⟨x, rfl, ra⟩ := ras.one
  replace e : pSetL1 so a st = some res := e
  unfold pSetL1 at e
  obtain ⟨ds, e1, e⟩ := Option.bind_eq_some_iff.mp e
  obtain ⟨ns, e2, e⟩ := Option.bind_eq_some_iff.mp e
  split at e
  · rename_i hb
    cases e
    obtain ⟨p, vs, rfl, hp, r1⟩ := asL_rd S ra e1
    rw [intsOfD_eq e2] at r1
    rw [r1.ints] at hp
    exact ⟨p, ns, rfl, hp, hb, fun l hl => newSetC hso S (nd_setL ns) hl⟩
  · cases e
/-! ### extend -/
theorem list_extendW (l : Addr) (its : Array Value) (n : Nat) (b : Addr) (its2 : Array Value) (n2 : Nat) (dd : Option Addr) (sl : Array (Option Value)) (hc0 : ¬(!its.isEmpty && Builtin.List.listTooLong (its.size + its2.size)) = true) (hc1 : its.size ≤ sizeLine) (hs2 : its.size + its2.size ≤ sizeLine + 1) :
    Meets (Builtin.«list.extend» ⟨[.ref l, .ref b], []⟩) (fun _ R s => s.heap.get? l = some { cls := .type "list", dict := none, data := .seq its n, slots := #[] } ∧ s.heap.get? b = some { cls := .type "list", dict := dd, data := .seq its2 n2, slots := sl } ∧ R (.ok (.ret Value.none)) { s with heap := s.heap.update l (Obj.mapSeq fun x => x ++ its2), toks := s.toks }) :=
  .of_wp fun prog w A R s h => by
    obtain ⟨hp, g, d, tk, os⟩ := s
    obtain ⟨hl, hb, h⟩ := h
    have g1 := AutoSeq1.idx_int; have g2 := AutoSeq1.sub_tuple_tuple; have g3 := AutoSeq1.sub_list_list; have g4 := AutoSeq1.sub_tuple_list; have g5 := AutoSeq1.sub_list_tuple
    have z : (its ++ its2).size ≤ sizeLine + 1 := by rw [Array.size_append]; exact hs2
    wp_walk using (wpAny_updateSeq hl rfl (hz := hc1) (_hz' := z)), AutoSeq1.wpAny_loadPart' hl, AutoSeq1.wpAny_loadPart' hb
    exact ⟨_, rfl, h⟩
def rExtW (K : PySem.W.Frag) : V → List V → Hp → VK → Prop := fun x vs H Q => ∃ l b xs zs, x = .ref l ∧ vs = [.ref b] ∧ H l = some (.lst xs) ∧ SqL K H b zs ∧ xs.length + zs.length ≤ sizeLine ∧ Q .non (upd H l (.lst (xs ++ zs)))
theorem mt_extW : MtM X "list.extend" (rExtW X.K) := by
  intro pins s σ H x vs v us Q I rx rv h
  obtain ⟨l, b, xs, zs, rfl, rfl, hH, hB, hz, q⟩ := h
  cases rx
  obtain ⟨u, rfl, ru⟩ := rv.one
  cases ru
  obtain ⟨z, its, n, r, hl, e⟩ := I.lstM hH
  obtain ⟨its2, r2, p2, _⟩ := I.list hB
  have hl2 := r2.length
  obtain ⟨⟨cls, dd, data, sl⟩, ho, hc, n2, hd⟩ := p2.isList
  simp only at hc hd
  subst hc hd
  have fits : its.toArray.size + its2.toArray.size ≤ sizeLine := by rw [List.size_toArray, List.size_toArray]; omega
  have lng : ¬ (!its.toArray.isEmpty && Builtin.List.listTooLong (its.toArray.size + its2.toArray.size)) = true := by
    rw [notLongL fits, Bool.and_false]
    exact Bool.false_ne_true
  refine call_meets F.slot_list_extend ⟨_, e, rfl⟩ F.entry_list_extend (F.args_list_extend_2 _ _) (list_extendW l its.toArray n b its2.toArray n2 dd sl lng (by rw [List.size_toArray]; omega) (by omega)) ⟨e, ho, ?_⟩
  refine ⟨.non, _, I.lset (its' := its ++ its2) hH e (by simp) (r.append r2) ?_, rfl, q⟩
  rw [List.length_append]; omega
def pExtend2 : P2
  | .ref n, b => fun st => (asL st b).bind fun ys => match st[n]? with
    | some (.lst xs) => if xs.length + ys.length ≤ sizeLine then some (.d .none, st.set n (.lst (xs ++ ys))) else none
    | _ => none
  | _, _ => fun _ => none
theorem mt_extendW : MtR X "list.extend" (rM2 X pExtend2) := by
  intro pins s σ H x vs v us Q I rx rv ⟨y, hv, μ, st, a, b, r, ra, rb, S, e, q⟩
  subst hv
  refine mt_extW pins s σ H x [y] v us Q I rx rv ?_
  unfold pExtend2 at e
  split at e
  · rename_i n
    obtain ⟨ys, e1, e⟩ := Option.bind_eq_some_iff.mp e
    obtain ⟨p2, ws2, rfl, hp2, r2⟩ := asL_rd S rb e1
    split at e
    · rename_i xs hx
      split at e
      · rename_i hz
        cases e
        obtain ⟨p, ws, rfl, hm, hp, r1⟩ := cell_get S ra hx
        obtain ⟨g5, S5⟩ := cell_set (X := X) (xs := xs) S hm (r1.append r2)
        exact ⟨p, p2, ws, ws2, rfl, rfl, hp, hp2, by rw [r1.length, r2.length]; exact hz, q _ _ μ g5 S5 (.d .non)⟩
      · cases e
    · cases e
  · cases e
end
end Iv
set_option Elab.async false
set_option linter.all false
set_option maxRecDepth 100000
set_option maxHeartbeats 1000000
/-! Iv8h: dicts whose keys are tuples (in tuples) of ints. -/
namespace Iv
open PySem PySem.Spec PyProof.Rows L2
section
variable {X : Cx} {pins : List (Addr × Obj)} {σ : L2.St} {H : Hp} {s : Shared} {μ : Mp}
mutual
theorem nested_of (I : Inv X pins σ H s) : ∀ {d : PyData} {v : V} {u : Value} {k : NestedKey}, RP X.K μ H v d → RelV v u → tkey d = some k → NestedIs s.heap k u
  | .none, _, _, _, r, ru, h => by
    cases r
    simp only [tkey, Option.some.injEq] at h
    subst h
    obtain rfl : _ = Value.none := ru
    exact .none
  | .int i, _, _, _, r, ru, h => by
    cases r
    simp only [tkey, Option.some.injEq] at h
    subst h
    obtain ⟨t, rfl⟩ := ru
    exact .int _ _
  | .tuple ds, _, _, _, r, ru, h => by
    cases r with
    | tup h1 r1 =>
      simp only [tkey] at h
      obtain ⟨ks, h2, rfl⟩ := Option.map_eq_some_iff.mp h
      obtain ⟨its, rv, ⟨o, ho, hc, n, hd⟩, _⟩ := I.tuple h1.sq
      obtain rfl : _ = Value.ref _ := ru
      exact .tup ho hc hd (by simpa using nesteds_of I r1 rv h2)
  | .bool _, _, _, _, _, _, h => by simp [tkey] at h
  | .str _, _, _, _, _, _, h => by simp [tkey] at h
  | .list _, _, _, _, _, _, h => by simp [tkey] at h
  | .dict _, _, _, _, _, _, h => by simp [tkey] at h
theorem nesteds_of (I : Inv X pins σ H s) : ∀ {ds : List PyData} {vs : List V} {us : List Value} {ks : List NestedKey}, RPs X.K μ H vs ds → Vals vs us → tkeys ds = some ks → NestedAll s.heap ks us
  | [], _, _, _, .nil, .nil, h => by
    simp only [tkeys, Option.some.injEq] at h
    subst h
    exact .nil
  | d :: r, _, _, _, .cons h1 h2, .cons r1 r2, h => by
    simp only [tkeys] at h
    obtain ⟨k, e1, e2⟩ := Option.bind_eq_some_iff.mp h
    obtain ⟨l, e3, rfl⟩ := Option.map_eq_some_iff.mp e2
    exact .cons (nested_of I h1 r1 e1) (nesteds_of I h2 r2 e3)
end
theorem key_is (I : Inv X pins σ H s) {a : Addr} {d : PyData} {k : NestedKey} (r : RP X.K μ H (.ref a) d) (h : ckey d = some k) : (nestedKind X.prog X.w).is s.heap k a :=
  ⟨nested_of I r rfl (ckey_t h).1, (ckey_t h).2.1⟩
theorem keys_is (I : Inv X pins σ H s) : ∀ {es : List DictEntry} {kvs : DTv} {xs : List (NestedKey × Addr × Value)}, EsT es kvs xs → RPs X.K μ H (xs.map fun x => V.ref x.2.1) (kvs.map (·.1)) → ∀ x ∈ xs, (nestedKind X.prog X.w).is s.heap x.1 x.2.1
  | _, _, _, .nil, _, x, hx => by cases hx
  | _, _, _, .cons h1 h2 t, .cons r1 r2, x, hx => by
    rcases List.mem_cons.mp hx with rfl | hx
    · exact key_is I r1 h1
    · exact keys_is I t r2 x hx
theorem dto_raw (I : Inv X pins σ H s) {a : Addr} {es : Array DictEntry} {ep : Nat} (h : H a = some (DtO a es ep)) : s.heap.DictRaw a es ep := by
  have z : ObjOk X.prog X.w H s.heap a (DtO a es ep) := I.hok a _ h
  exact z.1
theorem dtk_of (I : Inv X pins σ H s) {a : Addr} {kvs : DTv} {es : Array DictEntry} {ep : Nat} {xs : List (NestedKey × Addr × Value)} (nd : (kvs.map fun p => ckey p.1).Nodup) (h : H a = some (DtO a es ep)) (he : EsT es.toList kvs xs) (r : RPs X.K μ H (xs.map fun x => V.ref x.2.1) (kvs.map (·.1))) :
    s.heap.DictOfH (nestedKind X.prog X.w) a xs := by
  obtain ⟨o, ho, hx, hd⟩ := dto_raw I h
  refine ⟨o, es, ep, ho, hx, hd, he.ents, keys_is I he r, ?_⟩
  rw [he.keys] at nd
  have e : (xs.map fun x => some x.1) = (xs.map (·.1)).map some := by rw [List.map_map]; rfl
  rw [e] at nd
  exact (List.pairwise_map.mp nd).imp fun h e => h (congrArg some e)
theorem dto_new {P : Program} {w : World} {h : Heap} {a : Addr} {es : Array DictEntry} {ep : Nat} (R : h.DictRaw a es ep) : ObjOk P w H h a (DtO a es ep) := by
  have ⟨o, ho, _⟩ := R
  exact ⟨R, ⟨o, ho⟩, fun h1 h2 p k => p.at k⟩
end
/-- a cell's dict -/
def asKt (st : Sto) : Vl → Option DTv
  | .ref n => match st[n]? with
    | some (.dtk kvs) => some kvs
    | _ => none
  | _ => none
section
variable {X : Cx}
theorem asKt_rd {μ : Mp} {H : Hp} {st : Sto} {v : V} {a : Vl} {kvs : DTv} (S : RSt X.K μ H st) (r : RV X.K X.mg μ H v a) (e : asKt st a = some kvs) : ∃ p n, v = .ref p ∧ a = .ref n ∧ μ.c[n]? = some (some p) ∧ st[n]? = some (.dtk kvs) ∧ RC X.K μ H (some p) (.dtk kvs) := by
  unfold asKt at e
  split at e
  · rename_i n
    split at e
    · rename_i kvs' hc
      cases e
      cases r with
      | ref r =>
        rename_i p
        rcases r with r | r
        · exact ⟨p, n, rfl, rfl, r, hc, S.cell n _ _ r hc⟩
        · exact (S.cell n _ _ r hc).elim
    · cases e
  · cases e
/-- k in d -/
def pInK2 (neg : Bool) : P2 := fun a b st => (asKt st b).bind fun kvs => match a with
  | .d d => if (ckey d).isSome = true then some (.d (.bool (neg ^^ inT kvs d)), st) else none
  | _ => none
def rInK (X : Cx) (neg : Bool) : R2 := fun x y H Q => ∃ (μ : Mp) (st : Sto) (p q : Addr) (d : PyData) (kvs : DTv), x = .ref p ∧ y = .ref q ∧ RSt X.K μ H st ∧ RP X.K μ H (.ref p) d ∧ (ckey d).isSome = true ∧ RC X.K μ H (some q) (.dtk kvs) ∧ Q (.bl (neg ^^ inT kvs d)) H
theorem op_inK (hu : X.A.units + 66 < cLine) : OpR X (compareOp .In) (rInK X false) := by
  intro pins s σ H x y v u Q I rx ry ⟨μ, st, p, q, d, kvs, ex, ey, S, rp, hk, ⟨z, nd, es, ep, xs, vs, h1, h2, h3, h4, h5⟩, fin⟩
  subst ex ey
  cases rx
  cases ry
  obtain ⟨k, hk⟩ := Option.isSome_iff_exists.mp hk
  refine wpAny_in_heap (knd := nestedKind X.prog X.w) (k := k) (show X.A.units + 1 + 8 < cLine by omega) (key_is I rp hk) z (dtk_of I nd h1 h2 h3) ⟨.bl _, H, I.tok _, rfl, ?_⟩
  rw [h2.isIn hk]
  simpa using fin
theorem op_ninK (hu : X.A.units + 66 < cLine) : OpR X (compareOp .NotIn) (rInK X true) := by
  intro pins s σ H x y v u Q I rx ry ⟨μ, st, p, q, d, kvs, ex, ey, S, rp, hk, ⟨z, nd, es, ep, xs, vs, h1, h2, h3, h4, h5⟩, fin⟩
  subst ex ey
  cases rx
  cases ry
  obtain ⟨k, hk⟩ := Option.isSome_iff_exists.mp hk
  show wpAny _ _ (do return Value.bool (!(← contains (.ref q) (.ref p)))) _ _ s
  refine wpAny_bind (wpAny_contains_heap (knd := nestedKind X.prog X.w) (k := k) (show X.A.units + 1 + 8 < cLine by omega) (key_is I rp hk) z (dtk_of I nd h1 h2 h3) (wpAny_pure ⟨.bl _, H, I.tok _, rfl, ?_⟩))
  rw [h2.isIn hk]
  simpa using fin
theorem rinK_of {neg : Bool} {H : Hp} {x y : V} {μ : Mp} {st : Sto} {a b : Vl} {res : Vl × Sto} {Q : VK} (ra : RV X.K X.mg μ H x a) (rb : RV X.K X.mg μ H y b) (S : RSt X.K μ H st) (e : pInK2 neg a b st = some res)
    (k : ∀ t, res = (.d (.bool t), st) → Q (.bl t) H) : rInK X neg x y H Q := by
  unfold pInK2 at e
  obtain ⟨kvs, e1, e2⟩ := Option.bind_eq_some_iff.mp e
  clear e
  obtain ⟨q, n, rfl, rfl, _, _, rc⟩ := asKt_rd S rb e1
  split at e2
  · rename_i d
    split at e2
    · rename_i hk
      cases e2
      cases ra with
      | d ra =>
        obtain ⟨k', hk'⟩ := Option.isSome_iff_exists.mp hk
        obtain ⟨ds, rfl⟩ := (ckey_t hk').2.2
        cases ra with
        | tup h r1 => exact ⟨μ, st, _, q, _, kvs, rfl, rfl, S, .tup h r1, hk, rc, k _ rfl⟩
    · cases e2
  · cases e2
theorem ok_inK (hu : X.A.units + 66 < cLine) : PrOk X (f2 (compareOp .In)) (l2 (pInK2 false)) := by
  refine pr_op (op_inK hu) fun H x y μ st a b res ra rb S e => rinK_of ra rb S e fun t ht => ?_
  subst ht
  exact stayV S (.d (.bl _))
theorem ok_ninK (hu : X.A.units + 66 < cLine) : PrOk X (f2 (compareOp .NotIn)) (l2 (pInK2 true)) := by
  refine pr_op (op_ninK hu) fun H x y μ st a b res ra rb S e => rinK_of ra rb S e fun t ht => ?_
  subst ht
  exact stayV S (.d (.bl _))
/-! ### list(d) -/
theorem est_key : ∀ {es : List DictEntry} {kvs : DTv} {xs : List (NestedKey × Addr × Value)}, EsT es kvs xs → es.map (·.key) = xs.map fun x => Value.ref x.2.1
  | _, _, _, .nil => rfl
  | _, _, _, .cons h1 ⟨w, h2⟩ t => by subst h2; rw [List.map_cons, List.map_cons, est_key t]
def rListK (X : Cx) : List V → Hp → VK → Prop := fun xs H Q => ∃ (μ : Mp) (q : Addr) (kvs : DTv), xs = [V.ref q] ∧ RC X.K μ H (some q) (.dtk kvs) ∧ kvs.length ≤ sizeLine ∧ ∀ p vs, H p = none → RPs X.K μ H vs (kvs.map (·.1)) → Q (.ref p) (upd H p (.lst vs))
theorem cr_listK (hc : X.calm = true) : CallR X (.type "list") (rListK X) := by
  intro pins s σ H xs us Q I r h
  obtain ⟨μ, d, kvs, rfl, ⟨lo, nd, es, ep, ys, vs, h1, h2, h3, h4, h5⟩, hz, q⟩ := h
  obtain ⟨u, rfl, rx⟩ := r.one
  cases rx
  have l1 : es.size = ys.length := by rw [← Array.length_toList, h2.ents (P := X.prog) (w := X.w), List.length_map]
  have l2 : kvs.length = ys.length := h2.length
  refine PySem.W.kdl_call (KdlSrc.rawDict lo) (I.ok.hd hc) (dto_raw I h1) (by omega) fun h' tk acc c kp e it => ?_
  have ek : acc.toList = es.toList.map (·.key) := by
    apply List.ext_getElem
    · rw [Array.length_toList, it.1, List.length_map, Array.length_toList]
    · intro j hj1 hj2
      obtain ⟨hi, hv⟩ := it.2 j acc.toList[j] (by rw [← Array.getElem?_toList]; exact List.getElem?_eq_getElem hj1)
      rw [hv, List.getElem_map, Array.getElem_toList]
  have ea : acc.toList = (ys.map fun x => x.2.1).map Value.ref := by rw [ek, est_key h2, List.map_map]; rfl
  have rv : Vals ((ys.map fun x => x.2.1).map V.ref) acc.toList := by rw [ea]; exact vals_refs _
  have r3 : RPs X.K μ H ((ys.map fun x => x.2.1).map V.ref) (kvs.map (·.1)) := by rw [List.map_map]; exact h3
  refine ⟨.ref s.heap.objs.size, _, I.laid (t' := tk) (o := .lst ((ys.map fun x => x.2.1).map V.ref)) kp (Nat.le_refl _) ?_, rfl, q _ _ (I.hok.fresh (Nat.le_refl _)) r3⟩
  refine ⟨by rw [List.length_map, List.length_map]; omega, acc.toList, c, rv, by rw [Array.toArray_toList]; exact e⟩
def pListK1 : P1 := fun a st => (asKt st a).bind fun kvs => if kvs.length ≤ sizeLine then some (.ref st.length, st ++ [.lst (kvs.map (·.1))]) else none
theorem ok_listK (hc : X.calm = true) : PrOk X (fun us => call (.type "list") us) (l1 pListK1) := by
  refine pr_call (cr_listK hc) fun H xs μ st as res ras S e => ?_
  obtain ⟨a, rfl⟩ := l1_of e
  obtain ⟨x, rfl, ra⟩ := ras.one
  replace e : pListK1 a st = some res := e
  unfold pListK1 at e
  obtain ⟨kvs, e1, e2⟩ := Option.bind_eq_some_iff.mp e
  clear e
  obtain ⟨q, n, rfl, rfl, _, _, rc⟩ := asKt_rd S ra e1
  split at e2
  · rename_i hz
    cases e2
    exact ⟨μ, q, kvs, rfl, rc, hz, fun p vs hp r => newCell S r hp⟩
  · cases e2
/-! ### d[k] = v -/
theorem putT_old {d : PyData} {k : NestedKey} (hk : ckey d = some k) (v : PyData) (u : Value) : ∀ {es : List DictEntry} {kvs : DTv} {xs : List (NestedKey × Addr × Value)}, EsT es kvs xs →
    ∀ w : World, ∃ es', es' = (xs.map (putAt k u)).map (fun x => (⟨x.1.hash w, .ref x.2.1, x.2.2⟩ : DictEntry)) ∧ EsT es' (kvs.map fun p => if ckey p.1 = ckey d then (p.1, v) else p) (xs.map (putAt k u))
  | _, _, _, .nil, w => ⟨_, rfl, .nil⟩
  | _, _, _, .cons (k := k0) (d := d0) (v := v0) (a := a0) (u := u0) h1 h2 t, w => by
    obtain ⟨es', e, t'⟩ := putT_old hk v u t w
    refine ⟨_, rfl, ?_⟩
    rw [List.map_cons, List.map_cons, List.map_cons, ← e]
    have e1 : (ckey d0 = ckey d) = (k0 = k) := by rw [h1, hk]; simp
    by_cases q : k0 = k
    · rw [if_pos (by rw [e1]; exact q)]
      unfold putAt
      rw [if_pos q]
      exact .cons h1 ⟨w, rfl⟩ t'
    · rw [if_neg (by rw [e1]; exact q)]
      unfold putAt
      rw [if_neg q]
      exact .cons h1 ⟨w, rfl⟩ t'
theorem EsT.snoc {k : NestedKey} {d v : PyData} {a : Addr} {u : Value} (hk : ckey d = some k) (w : World) : ∀ {es : List DictEntry} {kvs : DTv} {xs : List (NestedKey × Addr × Value)}, EsT es kvs xs → EsT (es ++ [⟨k.hash w, .ref a, u⟩]) (kvs ++ [(d, v)]) (xs ++ [(k, a, u)])
  | _, _, _, .nil => .cons hk ⟨w, rfl⟩ .nil
  | _, _, _, .cons h1 h2 t => .cons h1 h2 (EsT.snoc hk w t)
theorem put_keys (kvs : DTv) (d v : PyData) : (kvs.map fun p => if ckey p.1 = ckey d then (p.1, v) else p).map (·.1) = kvs.map (·.1) := by
  rw [List.map_map]
  refine List.map_congr_left fun p _ => ?_
  show (if ckey p.1 = ckey d then (p.1, v) else p).1 = p.1
  split <;> rfl
theorem put_nd {kvs : DTv} {d v : PyData} (nd : (kvs.map fun p => ckey p.1).Nodup) : ((putT kvs d v).map fun p => ckey p.1).Nodup := by
  unfold putT
  split
  · have e : ((kvs.map fun p => if ckey p.1 = ckey d then (p.1, v) else p).map fun p => ckey p.1) = kvs.map fun p => ckey p.1 := by
      have := congrArg (List.map ckey) (put_keys kvs d v)
      rw [List.map_map] at this
      rw [List.map_map] at this
      rw [List.map_map] at this ⊢
      exact this
    rw [e]; exact nd
  · rename_i h
    rw [List.map_append, List.nodup_append]
    refine ⟨nd, by simp, fun a ha b hb e => h ?_⟩
    obtain ⟨p, hp, rfl⟩ := List.mem_map.mp ha
    have hb : b = ckey d := by simpa using hb
    unfold inT
    rw [List.any_eq_true]
    exact ⟨p, hp, by rw [decide_eq_true_eq, e, hb]⟩
theorem put_vals {K : PySem.W.Frag} {μ : Mp} {H : Hp} {k : NestedKey} {d x : PyData} {v : V} {u : Value} (hk : ckey d = some k) (rx : RP K μ H v x) (ru : RelV v u) : ∀ {es : List DictEntry} {kvs : DTv} {xs : List (NestedKey × Addr × Value)} {vs : List V}, EsT es kvs xs →
    Vals vs (xs.map (·.2.2)) → RPs K μ H vs (kvs.map (·.2)) → ∃ vs', Vals vs' ((xs.map (putAt k u)).map (·.2.2)) ∧ RPs K μ H vs' ((kvs.map fun p => if ckey p.1 = ckey d then (p.1, x) else p).map (·.2))
  | _, _, _, _, .nil, _, _ => ⟨[], .nil, .nil⟩
  | _, _, _, _, .cons (k := k0) (d := d0) h1 h2 t, .cons r1 r2, .cons p1 p2 => by
    obtain ⟨vs', q1, q2⟩ := put_vals hk rx ru t r2 p2
    have e1 : (ckey d0 = ckey d) = (k0 = k) := by rw [h1, hk]; simp
    by_cases q : k0 = k
    · refine ⟨v :: vs', ?_, ?_⟩
      · simp only [List.map_cons]
        unfold putAt
        rw [if_pos q]
        exact .cons ru q1
      · simp only [List.map_cons]
        rw [if_pos (by rw [e1]; exact q)]
        exact .cons rx q2
    · rename_i v1 _
      refine ⟨v1 :: vs', ?_, ?_⟩
      · simp only [List.map_cons]
        unfold putAt
        rw [if_neg q]
        exact .cons r1 q1
      · simp only [List.map_cons]
        rw [if_neg (by rw [e1]; exact q)]
        exact .cons p1 q2
def rSetK (X : Cx) : V → V → V → Hp → (Hp → Prop) → Prop := fun o i v H Q => ∃ (μ : Mp) (st : Sto) (n : Nat) (q p : Addr) (d x : PyData) (kvs : DTv), o = .ref q ∧ i = .ref p ∧ RSt X.K μ H st ∧ μ.c[n]? = some (some q) ∧ st[n]? = some (.dtk kvs) ∧
  RP X.K μ H (.ref p) d ∧ RP X.K μ H v x ∧ (ckey d).isSome = true ∧ kvs.length < sizeLine ∧ ∀ H', Grow μ H μ H' → RSt X.K μ H' (st.set n (.dtk (putT kvs d x))) → Q H'
theorem set_dtk (hu : X.A.units + 66 < cLine) : PSet X (rSetK X) := by
  intro pins s σ H o i v ov iv u Q I ro ri rv ⟨μ, st, n, q, p, d, x, kvs, eo, ei, S, hm, hs, rp, rx, hk, hz, fin⟩
  subst eo ei
  cases ro
  cases ri
  obtain ⟨k, hk⟩ := Option.isSome_iff_exists.mp hk
  obtain ⟨z, nd, es, ep, xs, vs, h1, h2, h3, h4, h5⟩ := S.cell n _ _ hm hs
  have hl := h2.length
  refine wpAny_setItem_heap (knd := nestedKind X.prog X.w) (k := k) (show X.A.units + 1 + 8 < cLine by omega) (key_is I rp hk) (dtk_of I nd h1 h2 h3) (fun h' dd sb => ?_) (by omega)
  obtain ⟨o', es', ep', ho', hx', hd', he', hi', nd'⟩ := dd
  have R : h'.DictRaw q es' ep' := ⟨o', ho', hx', hd'⟩
  have g : Grow μ H μ (upd H q (DtO q es' ep')) := Grow.write hm
  refine ⟨upd H q (DtO q es' ep'), d_write I (by rw [h1]; exact True.intro) sb ⟨o', ho'⟩ (dto_new R), fin _ g (S.write hm ?_)⟩
  have iz : (atKey xs k).isSome = inT kvs d := h2.isIn hk
  have ef : ∀ ys : List (NestedKey × Addr × Value), ys.map (entryOfKey (nestedKind X.prog X.w)) = ys.map (fun x => (⟨x.1.hash X.w, .ref x.2.1, x.2.2⟩ : DictEntry)) := fun ys => rfl
  cases hin : inT kvs d with
  | true =>
    rw [hin] at iz
    have es1 : storedH xs k p u = xs.map (putAt k u) := by unfold storedH; rw [if_pos iz]
    have ep1 : putT kvs d x = kvs.map fun y => if ckey y.1 = ckey d then (y.1, x) else y := by unfold putT; rw [if_pos hin]
    rw [es1, ef] at he'
    obtain ⟨es2, e2, t2⟩ := putT_old hk x u h2 X.w
    obtain ⟨vs', v1, v2⟩ := put_vals hk rx rv h2 h4 h5
    refine ⟨z, put_nd nd, es', ep', xs.map (putAt k u), vs', upd_same, ?_, ?_, v1, ?_⟩
    · rw [he', ← e2, ep1]; exact t2
    · rw [ep1, put_keys]
      have e3 : ((xs.map (putAt k u)).map fun y => V.ref y.2.1) = xs.map fun y => V.ref y.2.1 := by
        rw [List.map_map]
        refine List.map_congr_left fun y _ => ?_
        show V.ref (putAt k u y).2.1 = _
        unfold putAt
        split <;> rfl
      rw [e3]
      exact h3.step g
    · rw [ep1]; exact v2.step g
  | false =>
    rw [hin] at iz
    have es1 : storedH xs k p u = xs ++ [(k, p, u)] := by unfold storedH; rw [if_neg (by rw [iz]; exact Bool.false_ne_true)]
    have ep1 : putT kvs d x = kvs ++ [(d, x)] := by unfold putT; rw [if_neg (by rw [hin]; exact Bool.false_ne_true)]
    rw [es1, ef, List.map_append, ← ef, ← h2.ents (P := X.prog) (w := X.w)] at he'
    refine ⟨z, put_nd nd, es', ep', xs ++ [(k, p, u)], vs ++ [v], upd_same, ?_, ?_, ?_, ?_⟩
    · rw [he', ep1]; exact EsT.snoc hk X.w h2
    · rw [ep1, List.map_append, List.map_append]
      exact (h3.append (RPs.one rp)).step g
    · rw [List.map_append]; exact h4.append (.cons rv .nil)
    · rw [ep1, List.map_append]; exact (h5.append (RPs.one rx)).step g
/-! ### a walk -/
theorem raw_inj {h : Heap} {a : Addr} {es es' : Array DictEntry} {ep ep' : Nat} (x : h.DictRaw a es ep) (y : h.DictRaw a es' ep') : es = es' ∧ ep = ep' := by
  obtain ⟨o, h1, _, h2⟩ := x
  obtain ⟨o', h3, _, h4⟩ := y
  rw [h1] at h3
  cases h3
  rw [h2] at h4
  cases h4
  exact ⟨rfl, rfl⟩
theorem dto_rd {pins : List (Addr × Obj)} {σ : L2.St} {H : Hp} {s : Shared} (I : Inv X pins σ H s) {a : Addr} {es : Array DictEntry} {ep : Nat} (h : Rd H a (DtO a es ep)) : s.heap.DictRaw a es ep := by
  have z : ObjOk X.prog X.w H s.heap a (DtO a es ep) := h.ok I.hok
  exact z.1
def ItK (a : Addr) (es : Array DictEntry) (ep : Nat) : It :=
  ⟨fun i H => Rd H a (DtO a es ep) ∧ ∃ e p, es[i]? = some e ∧ e.key = .ref p, fun i H v H' => H' = H ∧ ∃ e, es[i]? = some e ∧ RelV v e.key, fun i H => Rd H a (DtO a es ep) ∧ es.size ≤ i⟩
theorem turn_dto {P : Program} {w : World} {K : PySem.W.Frag} {tg : Expr} (a it : Addr) (ne : a ≠ it) (es : Array DictEntry) (ep : Nat) : Turn P w K tg (ItK a es ep) [it] it (fun i h => h.IsKeyIter it a i es.size ep) where
  mem := by simp
  obj := fun i h st b hb => by
    have e : b = it := by simpa using hb
    subst e
    obtain ⟨o, e, c, d⟩ := st
    exact ⟨o, e, fun v z => by rw [d] at z; cases z⟩
  keep := fun i h h' st k => st.at fun o e => k it (by simp) o e
  item := by
    intro X hP hw hK hc i pins s σ H E I hf st ⟨hr, e, p, he, hk⟩
    subst hP hw hK
    obtain ⟨hi, ei⟩ := Array.getElem?_eq_some_iff.mp he
    obtain ⟨f0, f1, f2, f3, f4, f5⟩ := hf it (by simp)
    refine wpAny_pyNext_keys_item_raw st (dto_rd I hr) hi fun h' st' sb => ?_
    have I1 : Inv X pins σ H { s with heap := h' } := I.turned (t' := s.toks) (fun b o hb q => (sb.2 b hb).trans q) f0 f1 f3 f4 f5
    obtain ⟨o, q1, q2, q3⟩ := id st'
    exact ⟨es[i].key, rfl, go_of (s := { s with heap := h' }) q1 q2 q3 (by decide) ⟨.ref p, H, I1, by rw [ei]; exact hk, ⟨rfl, e, he, hk⟩, st', fun b hb => (hf b hb).1⟩⟩
  done := by
    intro X hP hw hK hc i pins s σ H E I hf st ⟨hr, hi⟩
    subst hP hw hK
    obtain ⟨f0, f1, f2, f3, f4, f5⟩ := hf it (by simp)
    have st2 : s.heap.IsKeyIter it a i es.size ep := st
    exact wpAny_pyNext_keys_end_raw (I.ok.hd hc) st2 (dto_rd I hr) hi fun h' eb => ⟨rfl, I.turned (t' := s.toks) (fun b o hb q => eb b o hb q) f0 f1 f3 f4 f5⟩
  self := fun A i s Q E st h => wpAny_pyIter_keyiter st h
def iKey (tl : TE) : TI := fun σ H R => tl σ H fun x H1 => ∃ a es ep, x = .ref a ∧ (a == sysModules) = false ∧ Rd H1 a (DtO a es ep) ∧ R (ItK a es ep) H1
theorem pi_key {tg l : Expr} {tl : TE} (hl : PE X l tl) : PI X tg l (iKey tl) := by
  refine ⟨fun pins s σ H R I h => ?_⟩
  refine thn (hl.run pins s σ H _ I h) fun v s1 ⟨x, H1, I1, r1, a, es, ep, e, lo, hr, q⟩ => ?_
  subst e
  cases r1
  have raw := dto_rd I1 hr
  have lt : a < s1.heap.objs.size := by obtain ⟨o, ho, _⟩ := raw; exact Heap.lt_size ho
  refine wpAny_pyIter_dict_raw lo raw ?_
  refine ⟨s1.heap.objs.size, [s1.heap.objs.size], _, _, H1, rfl, I1.kept (t' := s1.toks) fun b o e => Heap.get?_push_of_some _ e, turn_dto a _ (Nat.ne_of_lt lt) es ep, ⟨_, Heap.get?_push_size _ rfl, rfl, rfl⟩, fun b hb => ?_, q⟩
  have e : b = s1.heap.objs.size := by simpa using hb
  subst e
  exact I1.fpOk (Nat.le_refl _) (I1.hok.fresh (Nat.le_refl _))
/-- what is walked is never changed again -/
def itK (a : Vl) : M Wk := fun st => match a with
  | .ref n => match st[n]? with
    | some (.dtk kvs) => .ok ⟨kvs.length, fun i _ => some ((kvs[i]?).map (·.1))⟩ (st.set n .dead)
    | _ => .bad
  | _ => .bad
def itVK (f : Env → M Vl) : Env → M Wk := fun ρ => M.bind (f ρ) itK
theorem relV_ref {v : V} {a : Addr} (h : RelV v (.ref a)) : v = .ref a := by
  cases v with
  | ref b => cases h; rfl
  | non => cases h
  | bl b => cases h
  | ty n => cases h
  | int i => obtain ⟨t, h⟩ := h; cases h
  | str i => obtain ⟨t, h⟩ := h; cases h
  | byt i => obtain ⟨t, h⟩ := h; cases h
  | flt i => obtain ⟨t, h⟩ := h; cases h
variable {W : WX}
theorem est_at : ∀ {es : List DictEntry} {kvs : DTv} {xs : List (NestedKey × Addr × Value)}, EsT es kvs xs → ∀ (i : Nat) (d : PyData), (kvs[i]?).map (·.1) = some d → ∃ e x, es[i]? = some e ∧ xs[i]? = some x ∧ e.key = .ref x.2.1
  | _, _, _, .nil, i, d, h => by simp at h
  | _, _, _, .cons h1 ⟨w, h2⟩ t, 0, d, h => ⟨_, _, rfl, rfl, by rw [h2]⟩
  | _, _, _, .cons h1 h2 t, i + 1, d, h => by
    obtain ⟨e, x, q1, q2, q3⟩ := est_at t i d (by simpa using h)
    exact ⟨e, x, by simpa using q1, by simpa using q2, q3⟩
theorem ei_key {tg e : Expr} {f : Env → M Vl} (he : PE X e (gE X W f)) : PI X tg e (gI X W (itVK f)) :=
  (pi_key he).weak fun σ H R ⟨μ, ρ, st, re, S, h⟩ => gE.then (β := Unit) re S h fun v H1 a st1 μ1 re1 S1 ra g1 h1 => by
    unfold itK at h1
    split at h1
    · rename_i n
      split at h1
      · rename_i kvs hc
        cases ra with
        | ref ra =>
          rename_i q
          rcases ra with ra | ra
          · obtain ⟨z, nd, es, ep, xs, vs, k1, k2, k3, k4, k5⟩ := S1.cell n _ _ ra hc
            have g : Grow μ1 H1 (μ1.kill n) H1 := Grow.kill
            have fz : Fz (μ1.kill n) q := ⟨notin_kill S1 ra, fun hh => S1.dis q hh (List.mem_of_getElem? ra)⟩
            refine ⟨q, es, ep, rfl, z, .inl k1, h1 _ H1 (μ1.kill n) g (S1.kill n) ?_⟩
            intro μ' H' st' kp S' i
            have rd : Rd H' q (DtO q es ep) := (kp.rd q _ (.inl k1) fz).1
            have k3' := (k3.step g).kp kp
            constructor
            · intro e
              refine ⟨rd, ?_⟩
              have e2 : kvs.length ≤ i := by
                replace e : some ((kvs[i]?).map (·.1)) = some none := e
                cases e3 : kvs[i]? with
                | none => exact List.getElem?_eq_none_iff.mp e3
                | some y => rw [e3] at e; cases e
              have l1 : es.size = xs.length := by rw [← Array.length_toList, k2.ents (P := X.prog) (w := X.w), List.length_map]
              have := k2.length
              omega
            · intro d e
              replace e : some ((kvs[i]?).map (·.1)) = some (some d) := e
              have e1 : (kvs[i]?).map (·.1) = some d := Option.some.inj e
              obtain ⟨en, x, q1, q2, q3⟩ := est_at k2 i d e1
              have q1' : es[i]? = some en := by rw [← Array.getElem?_toList]; exact q1
              refine ⟨⟨rd, en, _, q1', q3⟩, fun y H2 ⟨eh, en2, q4, q5⟩ => ?_⟩
              subst eh
              rw [q1'] at q4
              cases q4
              rw [q3] at q5
              have := relV_ref q5
              subst this
              obtain ⟨v, h3, h4⟩ := k3'.get (by rw [List.getElem?_map]; exact e1)
              rw [List.getElem?_map, q2] at h3
              cases h3
              exact ⟨μ', Grow.refl _ _, S', h4⟩
          · exact (S1.cell n _ _ ra hc).elim
      · exact h1.elim
    · exact h1.elim
/-! ### {k: v} -/
def tDispK (X : Cx) (tk tv : TE) : TE := fun σ H Q => ∀ D, H D = none → tk σ (upd H D (DtO D #[] 0)) fun x H1 => tv σ H1 fun y H2 => H2 D = some (DtO D #[] 0) ∧ ∃ μ p d k, x = .ref p ∧ RP X.K μ H2 (.ref p) d ∧ ckey d = some k ∧
  ∀ dv es ep u, (D == sysModules) = false → EsT es.toList [(d, dv)] [(k, p, u)] → RelV y u → Q (.ref D) (upd H2 D (DtO D es ep))
theorem vv_one {x y : V} {ws : List (Value × Value)} (r : VV [(x, y)] ws) : ∃ u1 u2, ws = [(u1, u2)] ∧ RelV x u1 ∧ RelV y u2 := by
  cases r with
  | cons r1 r2 =>
    cases r2
    exact ⟨_, _, rfl, r1.1, r1.2⟩
theorem pe_dispK (hu : X.A.units + 66 < cLine) {k v : Expr} {tk tv : TE} {pos : Pos} (hk : PE X k tk) (hv : PE X v tv) : PE X (.Dict [some k] [v] pos) (tDispK X tk tv) := by
  refine ⟨fun pins s σ H Q I q => ?_⟩
  have hn := I.hok.fresh (Nat.le_refl s.heap.objs.size)
  have I1 : Inv X pins σ (upd H s.heap.objs.size (DtO s.heap.objs.size #[] 0)) { s with heap := s.heap.push { cls := .type "dict", data := .dict #[] } } :=
    I.laid (t' := s.toks) (fun _ _ q => Heap.get?_push_of_some _ q) (Nat.le_refl _) (dto_new ⟨_, Heap.get?_push_size _ rfl, ⟨rfl, rfl, rfl⟩, rfl⟩)
  have hs : (s.heap.objs.size == sysModules) = false := beq_eq_false_iff_ne.mpr (Ne.symm (Nat.ne_of_lt I.big))
  have pp : PPs X pos [some k] [v] [(tk, tv)] := pps_cons hk hv pps_nil
  rw [arm_eval_Dict, zip_pairTrees [some k] [v] X.env pos rfl rfl, dictDisplay_pairs (pairTrees [some k] [v] X.env pos) (by simp [pairTrees]) (by simp [pairTrees])]
  refine wpAny_bind (wpAny_standAt (wpAny_bind (wpAny_subDictH (knd := nestedKind X.prog X.w) (show X.A.units + 8 < cLine by omega) (by simp [pairTrees]) (thn (pp.run pins _ σ _ (fun ps H2 => match ps with
    | [(x, y)] => H2 s.heap.objs.size = some (DtO s.heap.objs.size #[] 0) ∧ ∃ μ p d k, x = .ref p ∧ RP X.K μ H2 (.ref p) d ∧ ckey d = some k ∧
        ∀ dv es ep u, (s.heap.objs.size == sysModules) = false → EsT es.toList [(d, dv)] [(k, p, u)] → RelV y u → Q (.ref s.heap.objs.size) (upd H2 s.heap.objs.size (DtO s.heap.objs.size es ep))
    | _ => False) I1 (q _ hn)) fun ws s2 ⟨ps, H2, I2, rel, q2⟩ => ?_))))
  match ps, q2 with
  | [(x, y)], ⟨hD, μ, p, d, k, ex, rp, hk, fin⟩ =>
    obtain ⟨u1, u2, rfl, rk, ry⟩ : ∃ u1 u2, ws = [(u1, u2)] ∧ RelV x u1 ∧ RelV y u2 := vv_one rel
    subst ex
    obtain rfl : u1 = Value.ref p := rk
    refine ⟨[(k, p, u2)], ⟨rfl, rfl, key_is I2 rp hk, trivial⟩, dtk_of (μ := μ) (kvs := []) I2 List.nodup_nil hD .nil .nil, fun h' tk dd sb => wpAny_pure ?_⟩
    obtain ⟨o', es', ep', ho', hx', hd', he', hi', nd'⟩ := dd
    have R : h'.DictRaw s.heap.objs.size es' ep' := ⟨o', ho', hx', hd'⟩
    refine ⟨.ref s.heap.objs.size, _, d_write I2 (by rw [hD]; exact True.intro) sb ⟨o', ho'⟩ (dto_new R), rfl, fin .none es' ep' u2 hs ?_ ry⟩
    rw [he']
    exact .cons hk ⟨X.w, rfl⟩ .nil
def newK (d x : PyData) : M Vl := fun st => if (ckey d).isSome = true then .ok (.ref st.length) (st ++ [.dtk [(d, x)]]) else .bad
/-- what it computes: nothing is let out -/
def dispK (f g : Env → M Vl) : Env → M Vl := fun ρ => M.bind (ex0 (f ρ)) fun a => M.bind (ex0 (g ρ)) fun b => match a with
  | .d d => M.bind (frzM b) fun x => newK d x
  | _ => nope
theorem ev_dispK (hu : X.A.units + 66 < cLine) {k v : Expr} {f g : Env → M Vl} {pos : Pos} (hk : PE X k (gE X W f)) (hv : PE X v (gE X W g)) : PE X (.Dict [some k] [v] pos) (gE X W (dispK f g)) := by
  refine (pe_dispK hu hk hv).weak fun σ H Q ⟨μ, ρ, st, re, S, P⟩ D eD => ?_
  unfold dispK at P
  simp only [M.bind, ex0] at P
  cases e1 : f ρ st with
  | bad => simp only [e1] at P; exact P.elim
  | ex y st1 => simp only [e1] at P; exact P.elim
  | ok a st1 =>
    simp only [e1] at P
    cases e2 : g ρ st1 with
    | bad => simp only [e2] at P; exact P.elim
    | ex y st2 => simp only [e2] at P; exact P.elim
    | ok b st2 =>
      simp only [e2] at P
      have kpH : Kp μ H ⟨μ.c, D :: μ.h⟩ (upd H D (DtO D #[] 0)) := Kp.hide eD
      refine ⟨⟨μ.c, D :: μ.h⟩, ρ, st, re.kp kpH, S.hide eD, ?_⟩
      rw [e1]
      intro x H1 μ1 g1 S1 ra
      refine ⟨μ1, ρ, st1, (re.kp kpH).step g1, S1, ?_⟩
      rw [e2]
      intro y H2 μ2 g2 S2 rb
      have hD : H2 D = some (DtO D #[] 0) := ((g1.trans g2).fz D _ upd_same (S.fresh eD).1).1
      refine ⟨hD, ?_⟩
      cases a with
      | d d =>
        dsimp only at P
        simp only [M.bind, frzM] at P
        cases e3 : frz1 st2 b with
        | none => rw [e3] at P; exact P.elim
        | some q3 =>
          obtain ⟨dx, st3⟩ := q3
          rw [e3] at P
          dsimp only at P
          obtain ⟨μ3, g3, S3, r3⟩ := frz1_ok S2 rb e3
          unfold newK at P
          split at P
          · rename_i hk
            obtain ⟨k, hk⟩ := Option.isSome_iff_exists.mp hk
            have ra2 := (ra.step g2).step g3
            obtain ⟨ds, rfl⟩ := (ckey_t hk).2.2
            cases ra2 with
            | d ra2 =>
              cases ra2 with
              | tup h0 r0 =>
                rename_i p ws
                have hm : D ∈ μ3.h := by rw [g3.hd, g2.hd, g1.hd]; exact List.mem_cons_self
                refine ⟨μ3, p, _, k, rfl, .tup h0 r0, hk, fun dv es ep u lo et ru => ?_⟩
                have g := (g1.trans g2).trans g3
                refine cell_show (c := .dtk [(.tuple ds, dx)]) eD S ((kpH.trans g.kp).trans (Kp.hid hm)) (fun a o ea na => ?_) (by rw [g.hd]) g.len (S3.hidUpd hm) (fun μ'' kp'' => ?_) P
                · have ne : a ≠ D := by intro q; subst q; rw [eD] at ea; cases ea
                  obtain ⟨f1, f2⟩ := g.fz a o (by rw [upd_ne ne]; exact ea) na
                  exact ⟨by rw [upd_ne ne]; exact f1, f2⟩
                · refine ⟨lo, by simp, es, ep, [(k, p, u)], [y], upd_same, ?_, ?_, .cons ru .nil, ?_⟩
                  · generalize es.toList = el at et ⊢
                    cases et with
                    | cons a1 a2 a3 => cases a3; exact .cons a1 a2 .nil
                  · have rp : RP X.K μ3 H2 (.ref p) (.tuple ds) := .tup h0 r0
                    exact RPs.one ((rp.kp (Kp.hid hm)).kp kp'')
                  · exact RPs.one ((r3.kp (Kp.hid hm)).kp kp'')
          · exact P.elim
      | _ => exact P.elim
end
end Iv
set_option Elab.async false
set_option linter.all false
set_option maxRecDepth 100000
set_option maxHeartbeats 1000000
/-! Iv8i: a call without arguments. -/
namespace Iv
open PySem PySem.Spec PyProof.Rows L2
section
variable {X : Cx} {W : WX}
theorem ev_call0 {c : List Vl → M Vl} {a : Addr} {fd : FuncData} {ps : List Str} {n k : Nat} {x : Str} {p pos : Pos} (tk : Takes X W)
    (F : FnG X.prog X.w X.K X.mg X.base k a fd ps (spI X.K X.mg c n)) (hr : Room k X.A) (gd : X.A.guards = some []) (hg : Gl X x) (hm : X.mg x = some (.ref a)) (hk : PySem.W.keepIn X.K (.ref a) = true) (hb : Binds X.K fd ps [])
    (hdb : (x == ("__debug__" : Str)) = false) : PE X (.Call (.Name x p) [] [] pos) (gE X W (callF n c nilM)) := by
  refine ⟨fun pins s σ H Q I h => ?_⟩
  obtain ⟨μ, ρ, st, re, S, q⟩ := tCallS_of h
  have ask : spI X.K X.mg c n [] H Q (WE W σ) := q [] H μ (Grow.refl _ _) S .nil
  refine wpAny_Call_Name_kw (ld_glob I hg hm ?_ hdb)
  exact PySem.W.callWith_K0 I.kIn hk (run_gk (ks := []) (ws := []) (us := []) (us' := []) F hr gd (by simpa using hb s [] I.kIn (by simpa using F.len _ _ _ _ ask)) (passAt tk σ) I .nil ask)
end
end Iv
set_option Elab.async false
set_option linter.all false
set_option maxRecDepth 100000
set_option maxHeartbeats 1000000
/-! Iv8j: == (); d.update(e); sorted(D) of a dict of the module; x += y. -/
namespace Iv
open PySem PySem.Spec PyProof.Rows L2
section
variable {X : Cx} {W : WX}
/-! ### t == () -/
def pEqN2 : P2 := fun a b st => match a, b with
  | .d (.tuple xs), .d (.tuple []) => some (.d (.bool xs.isEmpty), st)
  | a, b => pEq2 a b st
theorem op_eqN (hu : X.A.units + 66 < cLine) : OpR X (compareOp .Eq) (fun x y H Q => ∃ a b xs, x = V.ref a ∧ y = V.ref b ∧ SqT X.K H a xs ∧ SqT X.K H b [] ∧ Q (.bl xs.isEmpty) H) := by
  intro pins s σ H x y v u Q I rx ry ⟨a, b, xs, ex, ey, h1, h2, q⟩
  subst ex ey
  cases rx
  cases ry
  obtain ⟨its, r1, p1, _⟩ := I.tuple h1
  obtain ⟨its2, r2, p2, _⟩ := I.tuple h2
  cases r2
  refine SeqAt.eq_tupleAt (e := fun _ => true) (show s.heap.IsTuple a its.toArray from p1) (show s.heap.IsTuple b ([] : List Value).toArray from p2) (by omega) (fun j h1 h2 => absurd h2 (Nat.not_lt_zero _)) ⟨.bl xs.isEmpty, H, I.tok _, ?_, q⟩
  have hl := r1.length
  show Value.bool _ = Value.bool _
  congr 1
  cases xs with
  | nil =>
    have : its = [] := List.length_eq_zero_iff.mp hl.symm
    subst this; rfl
  | cons x r =>
    cases its with
    | nil => simp at hl
    | cons y t => simp
theorem rps_empty {K : PySem.W.Frag} {μ : Mp} {H : Hp} {vs : List V} {ds : List PyData} (r : RPs K μ H vs ds) : ds.isEmpty = vs.isEmpty := by
  cases r <;> rfl
theorem ok_eqN (hu : X.A.units + 66 < cLine) : PrOk X (f2 (compareOp .Eq)) (l2 pEqN2) := by
  intro pins s σ H vs us μ st as res I rv ras S e
  obtain ⟨a, b, rfl⟩ := l2_of e
  replace e : pEqN2 a b st = some res := e
  unfold pEqN2 at e
  split at e
  · refine pr_op (p := fun a b st => match a, b with
      | .d (.tuple xs), .d (.tuple []) => some (.d (.bool xs.isEmpty), st)
      | _, _ => none) (op_eqN hu) (fun H x y μ st a b res ra rb S e => ?_) pins s σ H vs us μ st _ res I rv ras S (by exact e)
    split at e
    · rename_i xs
      cases e
      cases ra with
      | d ra =>
        cases ra with
        | tup h1 r1 =>
          cases rb with
          | d rb =>
            cases rb with
            | tup h2 r2 =>
              cases r2
              refine ⟨_, _, _, rfl, rfl, h1.sq, h2.sq, ?_⟩
              have := rps_empty r1
              rw [← this]
              exact stayV S (.d (.bl _))
    · cases e
  · exact ok_eq (by omega) pins s σ H vs us μ st _ res I rv ras S (by exact e)
/-! ### d.update(e) -/
def rUpdW : V → List V → Hp → VK → Prop := fun x vs H Q => ∃ d o kvs more, x = .ref d ∧ vs = [.ref o] ∧ H d = some (.dK kvs) ∧ Rd H o (.dK more) ∧ d ≠ o ∧ kvs.length + more.length ≤ sizeLine ∧ Q .non (upd H d (.dK (mergeK kvs more)))
theorem mt_updW : MtM X "dict.update" rUpdW := by
  intro pins s σ H x vs v us Q I rx rv ⟨d, o, kvs, more, ex, ev, hd, ho, hne, hz, q⟩
  subst ex ev
  cases rx
  obtain ⟨u, rfl, ru⟩ := rv.one
  cases ru
  obtain ⟨z1, lo1, w1, r1, d1⟩ := dk_of I.hok hd
  obtain ⟨z2, lo2, w2, r2, d2⟩ := dk_rd I.hok ho
  have l1 : kvs.length = w1.length := Paired.length r1
  have l2 : more.length = w2.length := Paired.length r2
  refine call_meetsIn PySem.F.slot_dict_update d1.typeIs PySem.F.entry_dict_update (PySem.F.args_dict_update_2 _ _) (meets_dict_update (mixKind X.prog X.w) d o hne lo2)
    ⟨w1, w2, d1, d2, (by omega), fun h' dd _ hs => ?_⟩
  have he : ∃ q, h'.get? d = some q := let ⟨q, _, _, hq, _⟩ := dd; ⟨q, hq⟩
  have hl := length_mergeK more kvs
  exact ⟨.non, _, d_write I (by rw [hd]; exact True.intro) hs he (dk_new (by omega) lo1 (r2.merge r1) dd), rfl, q⟩
def keysOk : DKv → Option (List (Key × PyData))
  | [] => some []
  | y :: r => (keyOf y.1).bind fun k => (keysOk r).map ((k, y.2) :: ·)
theorem keys_rks {K : PySem.W.Frag} {μ : Mp} {H : Hp} {vs : List (Key × V)} : ∀ {ds : DKv} {es : List (Key × PyData)}, RPk K μ H vs ds → keysOk ds = some es → RKs K μ H vs es := by
  intro ds
  induction ds generalizing vs with
  | nil => intro es r e; cases r; cases e; exact .nil
  | cons y ds ih =>
    intro es r e
    cases r with
    | cons h t =>
      simp only [keysOk, keyOf_keyD, Option.bind_some] at e
      obtain ⟨l, e1, rfl⟩ := Option.map_eq_some_iff.mp e
      exact .cons h (ih t e1)
def pUpd2 : P2
  | .ref n, .d (.dict ds) => fun st => match st[n]? with
    | some (.dct kvs) => (keysOk ds).bind fun es => if kvs.length + ds.length ≤ sizeLine then some (.d .none, st.set n (.dct (mergeD kvs es))) else none
    | _ => none
  | _, _ => fun _ => none
theorem mt_updR : MtR X "dict.update" (rM2 X pUpd2) := by
  intro pins s σ H x vs v us Q I rx rv ⟨y, hv, μ, st, a, b, r, ra, rb, S, e, q⟩
  subst hv
  refine mt_updW pins s σ H x [y] v us Q I rx rv ?_
  unfold pUpd2 at e
  split at e
  · rename_i n ds
    split at e
    · rename_i kvs hx
      obtain ⟨es, e1, e⟩ := Option.bind_eq_some_iff.mp e
      split at e
      · rename_i hz
        cases e
        cases ra with
        | ref ra =>
          rename_i p
          rcases ra with ra | ra
          · obtain ⟨ws, h1, h2⟩ := S.cell n _ _ ra hx
            cases rb with
            | d rb =>
              cases rb with
              | dct h3 h4 h5 =>
                rename_i o more
                have hne : p ≠ o := fun z => h4.1 (z ▸ List.mem_of_getElem? ra)
                have g : Grow μ H μ (upd H p (.dK (mergeK ws more))) := Grow.write ra
                exact ⟨p, o, ws, more, rfl, rfl, h1, h3, hne, by rw [h2.len, h5.len]; exact hz, q _ _ μ g (S.write ra ⟨_, upd_same, ((keys_rks h5 e1).merge h2).step g⟩) (.d .non)⟩
          · exact (S.cell n _ _ ra hx).elim
      · cases e
    · cases e
  · cases e
def isDc (a : Vl) : M Unit := fun st => match a with
  | .ref n => match st[n]? with
    | some (.dct _) => .ok () st
    | _ => .bad
  | _ => .bad
def updD (f g : Env → M Vl) : Env → M Vl := fun ρ => M.bind (f ρ) fun a => M.bind (isDc a) fun _ => M.bind (g ρ) fun b => lift2 pUpd2 a b
theorem post_isDc {β γ : Type} {R2 : Rl β γ} {μ : Mp} {H : Hp} {Q : β → Hp → Prop} {E : XK} {a : Vl} {st : Sto} {x : V} {f : Unit → M γ} (h : Post X.K X.mg R2 μ H Q E (M.bind (isDc a) f st)) (S : RSt X.K μ H st) (r : RV X.K X.mg μ H x a) :
    tyV X.K "dict" x H ∧ Post X.K X.mg R2 μ H Q E (f () st) := by
  simp only [M.bind, isDc] at h
  cases a with
  | ref n =>
    dsimp only at h
    split at h
    · rename_i u st' heq
      split at heq
      · rename_i kvs hx
        cases heq
        cases r with
        | ref r =>
          rename_i p
          rcases r with r | r
          · obtain ⟨ws, h1, h2⟩ := S.cell n _ _ r hx
            exact ⟨.inr (.inr (.inl ⟨rfl, .inl ⟨ws, h1⟩⟩)), h⟩
          · exact (S.cell n _ _ r hx).elim
      · cases heq
    · rename_i heq
      split at heq <;> cases heq
    · exact h.elim
  | d x => exact h.elim
  | gl x => exact h.elim
  | ty x => exact h.elim
theorem ev_updD {o e : Expr} {f g : Env → M Vl} {apos cpos : Pos} (ho : PE X o (gE X W f)) (he : PE X e (gE X W g)) (hbase : attributeBase o "update" X.env (eval o X.env) = eval o X.env) (hline : (apos.endLine == cpos.line) = true) (hs : noStar [e] = true) :
    PE X (.Call (.Attribute o "update" apos) [e] [] cpos) (gE X W (updD f g)) :=
  (pe_bm PySem.F.plainAttrs_dict PySem.F.slot_dict_update PySem.F.type_dict_update mt_updR ho (pa_cons he pa_nil (star_cons hs)) hbase (few_ok hs) hline (star_cons hs) (star_any (star_tail hs))).weak fun σ H Q ⟨μ, ρ, st, re, S, h⟩ => gE.then (β := Unit) re S h fun v H1 a st1 μ1 re1 S1 ra g1 h1 => by
    obtain ⟨ty, h2⟩ := post_isDc h1 S1 ra
    exact ⟨ty, gE.then (β := Unit) re1 S1 h2 fun w H2 b st2 μ2 re2 S2 rb g2 h3 => ⟨w, rfl, post2 h3 (ra.step g2) rb S2⟩⟩
/-! ### sorted(D) -/
def leS (a b : Str) : Bool := !ltCps b.cps.toList a.cps.toList
theorem leS_iff {a b : Str} : leS a b = true ↔ a.cps.toList ≤ b.cps.toList := by
  unfold leS
  rw [ltCps_eq]
  simp
theorem leS_trans {a b c : Str} (h1 : leS a b = true) (h2 : leS b c = true) : leS a c = true :=
  leS_iff.mpr (List.le_trans (leS_iff.mp h1) (leS_iff.mp h2))
theorem leS_anti {a b : Str} (h1 : leS a b = true) (h2 : leS b a = true) : a = b := by
  have e : a.cps.toList = b.cps.toList := List.le_antisymm (leS_iff.mp h1) (leS_iff.mp h2)
  obtain ⟨x⟩ := a
  obtain ⟨y⟩ := b
  have : x = y := Array.toList_inj.mp e
  rw [this]
theorem rising_pw : ∀ (l : List Str) (p : Str), risingS p l = true → (p :: l).Pairwise fun a b => leS a b = true
  | [], p, _ => List.pairwise_singleton _ _
  | x :: r, p, h => by
    have h : (leS p x && risingS x r) = true := h
    obtain ⟨h1, h2⟩ := Bool.and_eq_true_iff.mp h
    have ih := rising_pw r x h2
    refine List.Pairwise.cons (fun y hy => ?_) ih
    rcases List.mem_cons.mp hy with rfl | hy
    · exact h1
    · exact leS_trans h1 (List.rel_of_pairwise_cons ih hy)
theorem sortedS_pw {l : List Str} (h : sortedS l = true) : l.Pairwise fun a b => leS a b = true := by
  cases l with
  | nil => exact .nil
  | cons p l => exact rising_pw l p h
def sortS (ks : List Str) : List Str := ks.mergeSort leS
theorem sortS_pw (ks : List Str) : (sortS ks).Pairwise fun a b => leS a b = true :=
  List.pairwise_mergeSort (le := leS) (fun a b c h1 h2 => leS_trans h1 h2) (fun a b => by
    rcases List.le_total a.cps.toList b.cps.toList with q | q
    · rw [leS_iff.mpr q]; rfl
    · rw [leS_iff.mpr q, Bool.or_true]) ks
theorem sortS_uniq {ks ys : List Str} (p : ys.Perm ks) (h : sortedS ys = true) : ys = sortS ks :=
  List.Perm.eq_of_pairwise (fun a b _ _ h1 h2 => leS_anti h1 h2) (sortedS_pw h) (sortS_pw ks) (p.trans (List.mergeSort_perm ks leS).symm)
theorem key_strs {Pm : Params} : ∀ {l : List DictEntry} {ks : List Str}, l.map He.keyOf = He.keysIn Pm ks → ∀ (i : Nat) (e : DictEntry), l[i]? = some e → ∃ x t, ks[i]? = some x ∧ e.key = Value.str x t
  | [], _, _, i, e, he => by simp at he
  | e0 :: r, [], h, _, _, _ => by cases h
  | e0 :: r, k :: ks, h, i, e, he => by
    have h1 : He.keyOf e0 :: r.map He.keyOf = some (k, PyData.keyHash Pm k) :: He.keysIn Pm ks := h
    injection h1 with h2 h3
    cases i with
    | zero =>
      have : e0 = e := by simpa using he
      subst this
      unfold He.keyOf at h2
      split at h2
      · rename_i x t q
        exact ⟨x, t, by rw [← (Prod.mk.inj (Option.some.inj h2)).1]; rfl, q⟩
      · cases h2
    | succ i =>
      obtain ⟨x, t, q1, q2⟩ := key_strs h3 i e (by simpa using he)
      exact ⟨x, t, by simpa using q1, q2⟩
theorem cr_sortedKD (hc : X.calm = true) {d : Addr} {es : Array DictEntry} {n : Nat} {ks : List Str} (D : KDict X.K X.w d es n) (hk : es.toList.map He.keyOf = He.keysIn X.w.params ks) (h64 : ks.length < 64) :
    CallR X (.builtin "sorted") (fun xs H Q => xs = [.ref d] ∧ ∀ p, H p = none → Q (.ref p) (upd H p (.lst ((sortS ks).map V.str)))) := by
  intro pins s σ H xs us Q I r ⟨ex, q⟩
  subst ex
  rw [Vals.ref1 r]
  have raw : s.heap.DictRaw d es n := ⟨_, I.kIn _ _ D.at_, ⟨rfl, rfl, rfl⟩, rfl⟩
  have zs : es.size = ks.length := by
    have := congrArg List.length hk
    unfold He.keysIn at this
    rw [List.length_map, List.length_map, Array.length_toList] at this
    exact this
  refine Calls.call_function_entry PyProof.Rows.kind_sorted PyProof.Rows.plain_sorted PyProof.Rows.entry_sorted (PyProof.Rows.args_sorted1 _) (by
    unfold Builtin.«sorted»
    refine wpAny_bind (m := checkCount "sorted" 1 1 _) (wpAny_pure (wpAny_bind (PySem.W.kdu_collect (A := X.A.in1) (KdlSrc.rawDict D.low) (I.ok.hd hc) raw (by rw [zs, sizeLine_eq]; omega) fun h' tk acc kp it => ?_)))
    have al : acc.toList.length = ks.length := by rw [Array.length_toList, it.1, zs]
    have allS : StrsAre acc.toList ks := strs_at al fun j v e => by
      obtain ⟨hi, ev⟩ := it.2 j v (by rw [← Array.getElem?_toList]; exact e)
      obtain ⟨x, t, q1, q2⟩ := key_strs hk j es[j] (by rw [Array.getElem?_toList]; exact Array.getElem?_eq_getElem hi)
      exact ⟨x, t, q1, by rw [ev, q2]⟩
    have J : Inv X pins σ H { s with heap := h', toks := tk } := I.kept kp
    refine wpAny_bind (wpAny_newList ?_ (by rw [al, sizeLine_eq]; omega))
    have at0 : (h'.push (seqObj "list" acc.toList.toArray 0)).get? h'.objs.size = some (seqObj "list" acc.toList.toArray 0) := Heap.get?_push_size _ rfl
    refine (show wpAny _ _ _ _ _ { s with heap := h'.push (seqObj "list" acc.toList.toArray 0), toks := tk } from wpAny_bind (wpAny_holding (wpAny_call_entry PyProof.Rows.slot_list_sort ⟨_, at0, rfl⟩ PyProof.Rows.entry_list_sort
      (list_sort_treeK strKind_oneLt (s := { s with heap := h'.push (seqObj "list" acc.toList.toArray 0), toks := tk }) at0 allS.keysOf (fun v₁ v₂ rest e => keyKind_strs (by rw [← e]; exact allS)) (by rw [al]; exact h64) fun st' hp hs => ⟨_, rfl, ?_⟩) (PyProof.Rows.args_list_sort _))))
    obtain ⟨ys, g1, g2, g3⟩ := sorted_out_str allS hp hs
    have hy := sortS_uniq g2 g3
    subst hy
    obtain ⟨e', he'⟩ := PyProof.Rows.sortedHeap_at (vs := acc.toList) (out := (arrOf st').map (·.2)) at0
    refine wpAny_pure ⟨_, rfl, .ref h'.objs.size, upd H h'.objs.size (.lst ((sortS ks).map V.str)), J.laid (t' := tk) (fun b u e => ?_) (Nat.le_refl _)
      (show ObjOk X.prog X.w _ _ _ (.lst ((sortS ks).map V.str)) from ⟨by rw [List.length_map, g2.length_eq, sizeLine_eq]; omega, ((arrOf st').map (·.2)).toList, e', vals_of_strs g1, by rw [Array.toArray_toList]; exact he'⟩), rfl, q _ (J.hok.fresh (Nat.le_refl _))⟩
    have lt : b < h'.objs.size := Heap.lt_size e
    rw [PyProof.Rows.sortedHeap_old (Nat.ne_of_lt lt) (by rw [size_push']; exact Nat.lt_succ_of_lt lt)]
    exact Heap.get?_push_of_some _ e)
def pSortedD1 (D : Str) (kvs : List (Str × DV)) : P1
  | .gl y => fun st => if y = D ∧ kvs.length < 64 then some (.d (.list ((sortS (kvs.map (·.1))).map .str)), st) else none
  | _ => fun _ => none
theorem rps_strs {K : PySem.W.Frag} {μ : Mp} {H : Hp} : ∀ ks : List Str, RPs K μ H (ks.map V.str) (ks.map PyData.str)
  | [] => .nil
  | _ :: r => .cons (.str _) (rps_strs r)
theorem ok_sortedD (hc : X.calm = true) {D : Str} {kvs : List (Str × DV)} (h : DcOk X D kvs) : PrOk X (fun us => call (.builtin "sorted") us) (l1 (pSortedD1 D kvs)) := by
  obtain ⟨d, es, n, hm, kd, _, _, hk⟩ := h
  intro pins s σ H vs us μ st as res I rv ras S e
  obtain ⟨a, rfl⟩ := l1_of e
  replace e : pSortedD1 D kvs a st = some res := e
  unfold pSortedD1 at e
  split at e
  · rename_i y
    split at e
    · rename_i hz
      cases e
      obtain ⟨rfl, h64⟩ := hz
      obtain ⟨x, rfl, ra⟩ := ras.one
      cases ra with
      | gl ra =>
        rename_i a'
        rw [hm] at ra
        have : d = a' := by
          have := Option.some.inj ra
          injection this
        subst this
        have := cr_sortedKD hc kd hk (by rw [List.length_map]; exact h64) pins s σ H _ us (fun v H' => ∃ μ', Grow μ H μ' H' ∧ RSt X.K μ' H' st ∧ RV X.K X.mg μ' H' v (.d (.list ((sortS (kvs.map (·.1))).map .str)))) I rv ⟨rfl, fun p hp => newL S (rps_strs _) hp⟩
        exact thn this fun u s' h => EPr.of h
    · cases e
  · cases e
end
end Iv
set_option Elab.async false
set_option linter.all false
set_option maxRecDepth 100000
set_option maxHeartbeats 4000000
/-! Iv9: an expression's text as what it computes. -/
namespace Iv
open PySem PySem.Spec PyProof.Rows L2

def binP : Operator → Option P2
  | .Add => some pAdd2
  | .Sub => some pSub2
  | .Mult => some pMulA2
  | .FloorDiv => some pFdiv2
  | .Mod => some pMod2
  | .Pow => some pPow2
  | _ => none
def cmpP : CmpOp → P2
  | .Eq => pEq2
  | .NotEq => pNe2
  | .Lt => pCmp2 fun i j => decide (i < j)
  | .LtE => pCmp2 fun i j => decide (i ≤ j)
  | .Gt => pCmp2 fun i j => decide (j < i)
  | .GtE => pCmp2 fun i j => decide (j ≤ i)
  | .Is => pIs2
  | .IsNot => pIsnt2
  | .In => pInA2 false
  | .NotIn => pInA2 true
def tyName (x : Str) : Option Ty :=
  if x = "int" then some .int else
  if x = "bool" then some .bl else
  if x = "str" then some .str else
  if x = "tuple" then some .tup else
  if x = "list" then some .lst else
  if x = "dict" then some .dct else none
def tyM (t : Ty) : Env → M Vl := fun _ => ret (.ty t)
def bltP (calm : Bool) (x : Str) : Option Pr :=
  if x = "isinstance" then some pIsi else
  if x = "repr" then some pRepr else
  if x = "sorted" then some (l1 pSorted1) else
  if x = "len" then some (l1 pLenA1) else
  if x = "abs" then some pAbs else
  if x = "int" then some pInt else
  if x = "list" then some pList else
  if x = "tuple" then some pTuple else
  if calm = true then
    if x = "max" then some pMax else
    if x = "min" then some pMin else
    if x = "all" then some pAll else
    if x = "any" then some pAny else
    if x = "dict" then some (l1 pDict1) else
    if x = "sum" then some pSum else none
  else none
def okName (x : Str) : Bool := !(x == ("__debug__" : Str)) && !(x == ("__classdict__" : Str)) && !(x == ("__name__" : Str))
/-- a target -/
def cG : Nat → SC → Expr → Option (Asg × List Nat)
  | 0, _, _ => none
  | n + 1, G, .Name x _ => (slot G.N x).bind fun i => match G.names.lookup x with
    | some .local => some (aName i, [i])
    | some .cell => some (aName i, [i])
    | _ => none
  | n + 1, G, .Tuple es _ _ => if G.calm = true ∧ noStar es = true then (es.foldr (fun e r => (cG n G e).bind fun m => r.map fun q => (aCons m.1 q.1, m.2 ++ q.2)) (some (aNil, []) : Option ((List PyData → Env → Option Env) × List Nat))).map fun q => (aTup es.length q.1, q.2) else none
  | _, _, _ => none
def ownOf (N : List Str) (names : List (Str × NameKind)) : List (Str × Nat) := names.filterMap fun y => match y.2 with
  | .local => (slot N y.1).map fun i => (y.1, i)
  | .cell => (slot N y.1).map fun i => (y.1, i)
  | _ => none
def ownIx (N : List Str) (names : List (Str × NameKind)) : List Nat := (ownOf N names).map Prod.snd
/-- the same number, reckoned -/
def frcN : Nat → Option Nat
  | 0 => some 0
  | n + 1 => (frcN n).bind fun k => some (k + 1)
theorem frcN_ok : ∀ {n k : Nat}, frcN n = some k → k = n
  | 0, k, h => by cases h; rfl
  | n + 1, k, h => by
    obtain ⟨j, hj, h⟩ := some_bind h
    cases h
    rw [frcN_ok hj]
def frcL : List Nat → Option (List Nat)
  | [] => some []
  | a :: r => (frcN a).bind fun k => (frcL r).bind fun l => some (k :: l)
theorem frcL_ok : ∀ {n k : List Nat}, frcL n = some k → k = n
  | [], k, h => by cases h; rfl
  | a :: r, k, h => by
    obtain ⟨j, hj, h⟩ := some_bind h
    obtain ⟨l, hl, h⟩ := some_bind h
    cases h
    rw [frcN_ok hj, frcL_ok hl]
def scOf (names : List (Str × NameKind)) : Scope := { kind := .function, names := names, isGenerator := false, isCoroutine := false, more := [] }
def isSet : Expr → Bool
  | .Set .. => true
  | _ => false
def isTupT : Expr → Bool
  | .Tuple .. => true
  | _ => false
theorem isTupT_ok {e : Expr} (h : isTupT e = true) : ∃ es k p, e = .Tuple es k p := by
  cases e <;> first | exact ⟨_, _, _, rfl⟩ | (simp [isTupT] at h)
def isPlain : Expr → Bool
  | .Name .. => true
  | .Subscript .. => true
  | .List .. => true
  | _ => false
def mt1 (m : Str) : Option P1 := if m = "pop" then some pPop1 else none
def mt2 (m : Str) : Option P2 := if m = "append" then some pAppend2 else if m = "pop" then some pPopAt2 else if m = "extend" then some pExtend2 else none
/-- the dict of the module that an expression names -/
def dctOf (G : SC) : Expr → Option (Str × List (Str × DV))
  | .Name D _ => if okName D = true ∧ G.names.lookup D = some .globalImplicit then (match G.glob D with
    | some (.dct kvs) => some (D, kvs)
    | _ => none) else none
  | _ => none
/-- whether an expression is known to be a set -/
def setE (G : SC) : Expr → Bool
  | .SetComp .. => true
  | .Set .. => true
  | .Name x _ => G.sn.contains x
  | .Call (.Name x _) _ _ _ => x == "set"
  | _ => false
/-- whether an expression is known to be a dict with tuple keys -/
def dnE (G : SC) : Expr → Bool
  | .Name x _ => G.dn.contains x
  | _ => false
def isNilT : Expr → Bool
  | .Tuple [] _ _ => true
  | _ => false
def cmpQ (G : SC) (op : CmpOp) (b : Expr) : Option P2 := if isNilT b = true then (match op with
    | .Eq => some pEqN2
    | op => some (cmpP op)) else if dnE G b = true then (match op with
    | .In => some (pInK2 false)
    | .NotIn => some (pInK2 true)
    | op => some (cmpP op)) else if setE G b = true then (match op with
    | .In => some (pInS2 false)
    | .NotIn => some (pInS2 true)
    | op => some (cmpP op)) else match dctOf G b with
  | some q => (match op with
    | .In => some (pInD2 false q.1 q.2)
    | .NotIn => some (pInD2 true q.1 q.2)
    | op => some (cmpP op))
  | none => some (cmpP op)
def ixQ (G : SC) (a : Expr) : Option P2 := match dctOf G a with
  | some q => some (pIxD2 q.1 q.2)
  | none => some pIxA2
/-- a builtin of what is known to be a set -/
def bltQ (G : SC) (x : Str) : List Expr → Option Pr
  | [e] => if x = "sorted" ∧ (dctOf G e).isSome = true ∧ G.calm = true then (dctOf G e).map fun q => l1 (pSortedD1 q.1 q.2) else if x = "set" ∧ G.calm = true then some (l1 (pSetL1 G.so)) else if setE G e = true ∧ x = "sorted" ∧ G.calm = true then some (l1 (pSortedS1 G.so)) else if setE G e = true ∧ x = "len" then some (l1 pLenS1) else bltP G.calm x
  | _ => bltP G.calm x
def kwN : List Keyword → Option (List Str)
  | [] => some []
  | q :: r => match q.arg with
    | some y => (kwN r).map (y :: ·)
    | none => none
mutual
def cE : Nat → SC → Expr → Option (Env → M Vl)
  | 0, _, _ => none
  | n + 1, G, e => match e with
    | .Constant .none _ _ => some (cM .none)
    | .Constant (.bool b) _ _ => some (cM (.bool b))
    | .Constant (.int i) _ _ => some (cM (.int i))
    | .Constant (.str x) _ _ => some (cM (.str x))
    | .Name x _ => if okName x = true then match G.names.lookup x with
        | some .local => (slot G.N x).map varM
        | some .cell => (slot G.N x).map varM
        | some .free => (slot G.N x).map varM
        | some .globalImplicit => match G.glob x with
          | some (.cst d) => some (cM d)
          | some (.fn _) => some (glM x)
          | some (.dct _) => some (glM x)
          | some .cls => some (glM x)
          | none => (tyName x).map tyM
        | _ => none
      else none
    | .BinOp a op b _ => (binP op).bind fun p => (cE n G a).bind fun f => (cE n G b).bind fun g => some (bin p f g)
    | .UnaryOp .USub a _ => (cE n G a).bind fun f => some (un pNeg1 f)
    | .UnaryOp .Not a _ => (cE n G a).bind fun f => some (notV f)
    | .BoolOp op es _ => cV n G op es
    | .Compare a [op] [b] _ => if behindInMarks op b = false then (cE n G a).bind fun f => (cE n G b).bind fun g => (cmpQ G op b).bind fun p => some (bin p f g) else none
    | .Compare a [op, op'] [b, c] _ => if lastMarks [op, op'] [b, c] = false then (cE n G a).bind fun f => (cE n G b).bind fun g => (cE n G c).bind fun k => some (chain (cmpP op) (cmpP op') f g k) else none
    | .IfExp c a b _ => (cT n G c).bind fun k => (cE n G a).bind fun f => (cE n G b).bind fun g => some (ifV k f g)
    | .Tuple es _ _ => if noStar es = true then (cA n G es).bind fun f => some (tupM f) else none
    | .List es _ => if noStar es = true then (cA n G es).bind fun f => some (lstM f) else none
    | .Subscript a (.Slice lo hi none _) _ => (cE n G a).bind fun f => (cO n G lo).bind fun l => (cO n G hi).bind fun u => some (slM f l u)
    | .Subscript _ (.Slice _ _ (some _) _) _ => none
    | .Subscript a b _ => (cE n G a).bind fun f => (cE n G b).bind fun g => (ixQ G a).bind fun p => some (bin p f g)
    | .Call (.Name x _) [] [] _ => if okName x = true then match G.names.lookup x with
        | some .globalImplicit => match G.glob x with
          | some (.fn i) => if G.calm = true ∧ [] ∈ i.sh ∧ i.kw = [] then (frcN i.n).bind fun k => some (callF k (G.call x) nilM) else none
          | _ => none
        | _ => none
      else none
    | .Call (.Name x _) (e :: es) [] _ => if (okName x && noStar (e :: es)) = true then match G.names.lookup x with
        | some .globalImplicit => match G.glob x with
          | some (.fn i) => if G.calm = true ∧ [] ∈ i.sh then (cA n G (e :: es)).bind fun f => if i.kw = [] then (frcN i.n).bind fun k => some (callF k (G.call x) f) else some (callK i [] (G.call x) f nilM) else none
          | some _ => none
          | none => (bltQ G x (e :: es)).bind fun p => (cA n G (e :: es)).bind fun f => some (callP p f)
        | some .local => if G.calm = true then (slot G.N x).bind fun i => (cA n G (e :: es)).bind fun g => some (callD G.glob G.call (varM i) g) else none
        | some .cell => if G.calm = true then (slot G.N x).bind fun i => (cA n G (e :: es)).bind fun g => some (callD G.glob G.call (varM i) g) else none
        | _ => none
      else none
    | .Call (.Name x _) (e :: es) (q :: qs) _ => if (okName x && noStar (e :: es)) = true then match G.names.lookup x with
        | some .globalImplicit => match G.glob x with
          | some (.fn i) => (kwN (q :: qs)).bind fun ks => if G.calm = true ∧ ks ∈ i.sh then (cA n G (e :: es)).bind fun f => (cA n G ((q :: qs).map (·.value))).bind fun g => some (callK i ks (G.call x) f g) else none
          | _ => none
        | _ => none
      else none
    | .Call (.Subscript o j p) (e :: es) [] _ => if G.calm = true ∧ noStar (e :: es) = true then (cE n G (.Subscript o j p)).bind fun f => (cA n G (e :: es)).bind fun g => some (callD G.glob G.call f g) else none
    | .Call (.Attribute o m apos) [] [] cpos => if (isPlain o && (apos.endLine == cpos.line)) = true then (mt1 m).bind fun p => (cE n G o).bind fun f => some (meth1 p f) else none
    | .SetComp elt gs scope pos => cQ n G (.SetComp elt gs scope pos)
    | .Set [e] k _ => if k = 0 ∧ isStar e = false then (cE n G e).bind fun f => some (oneS G.so f) else none
    | .Call (.Attribute o m apos) [e] [] cpos => if setE G o = true ∧ m = "add" ∧ (isPlain o && (apos.endLine == cpos.line) && noStar [e]) = true then (cE n G o).bind fun f => (cE n G e).bind fun g => some (addS G.so f g) else if m = "update" ∧ (isPlain o && (apos.endLine == cpos.line) && noStar [e]) = true then (cE n G o).bind fun f => (cE n G e).bind fun g => some (updD f g) else if (isPlain o && (apos.endLine == cpos.line) && noStar [e]) = true then (mt2 m).bind fun p => (cE n G o).bind fun f => (cE n G e).bind fun g => some (meth2 p f g) else none
    | .ListComp elt gs scope pos => cL n G (fun xs => ret (.d (.list xs))) (.ListComp elt gs scope pos)
    | .Dict [] [] _ => some fun _ => ret (.d (.dict []))
    | .Dict (k :: ks) vs _ => if (k :: ks).length ≤ 15 then (cP n G (k :: ks) vs).bind fun l => some (dctG (fun ds => ret (.d (.dict ds))) l) else none
    | _ => none
def cV : Nat → SC → BoolOp → List Expr → Option (Env → M Vl)
  | 0, _, _, _ => none
  | n + 1, G, op, es => match es with
    | [] => none
    | [a] => cE n G a
    | a :: b :: r => (cE n G a).bind fun f => (cV n G op (b :: r)).bind fun g => match op with
      | .And => some (andV f g)
      | .Or => some (orV f g)
def cT : Nat → SC → Expr → Option (Env → M Bool)
  | 0, _, _ => none
  | n + 1, G, e => match e with
    | .UnaryOp .Not a _ => (cT n G a).bind fun f => some (notM f)
    | .BoolOp op es _ => cW n G op es
    | .IfExp .. => none
    | .Compare a [op] [b] _ => if behindInMarks op b = false then (cE n G a).bind fun f => (cE n G b).bind fun g => (cmpQ G op b).bind fun p => some (bM (bin p f g)) else none
    | .Compare a [op, op'] [b, c] _ => if lastMarks [op, op'] [b, c] = false then (cE n G a).bind fun f => (cE n G b).bind fun g => (cE n G c).bind fun k => some (bM (chain (cmpP op) (cmpP op') f g k)) else none
    | .Compare .. => none
    | e => (cE n G e).bind fun f => some (tst f)
def cW : Nat → SC → BoolOp → List Expr → Option (Env → M Bool)
  | 0, _, _, _ => none
  | n + 1, G, op, es => match es with
    | [] => none
    | [a] => cT n G a
    | a :: b :: r => (cT n G a).bind fun f => (cW n G op (b :: r)).bind fun g => match op with
      | .And => some (andM f g)
      | .Or => some (orM f g)
def cA : Nat → SC → List Expr → Option (Env → M (List Vl))
  | 0, _, _ => none
  | n + 1, G, es => match es with
    | [] => some nilM
    | e :: r => (cE n G e).bind fun f => (cA n G r).bind fun g => some (consM f g)
def cO : Nat → SC → Option Expr → Option (Env → M (Option Int))
  | 0, _, _ => none
  | n + 1, G, o => match o with
    | none => some noO
    | some e => (cE n G e).bind fun f => some (someO f)
def cI : Nat → SC → Expr → Expr → Option (Env → M Wk)
  | 0, _, _, _ => none
  | n + 1, G, tg, e => match e with
    | .Call (.Name x _) [a] [] _ => if x = "range" ∧ G.names.lookup x = some .globalImplicit ∧ (G.glob x).isNone = true then
        if noStar [a] = true then (cE n G a).bind fun f => some (itR1 f) else none
      else if x = "enumerate" ∧ G.names.lookup x = some .globalImplicit ∧ (G.glob x).isNone = true then
        if noStar [a] = true ∧ isTupT tg = true then (cA n G [a]).bind fun f => some (fun ρ => M.bind (f ρ) enM) else none
      else (cE n G e).bind fun f => some (itV f)
    | .Call (.Name x _) [a, b] [] _ => if x = "range" ∧ G.names.lookup x = some .globalImplicit ∧ (G.glob x).isNone = true then
        if noStar [a, b] = true then (cE n G a).bind fun f => (cE n G b).bind fun g => some (itR2 f g) else none
      else if x = "zip" ∧ G.names.lookup x = some .globalImplicit ∧ (G.glob x).isNone = true then
        if noStar [a, b] = true ∧ isTupT tg = true then (cA n G [a, b]).bind fun f => some (fun ρ => M.bind (f ρ) zpM) else none
      else (cE n G e).bind fun f => some (itV f)
    | e => if dnE G e = true then (cE n G e).bind fun f => some (itVK f) else (cE n G e).bind fun f => some (itV f)
def cL : Nat → SC → (List PyData → M Vl) → Expr → Option (Env → M Vl)
  | 0, _, _, _ => none
  | n + 1, G, fin, e => match e with
    | .ListComp elt [⟨tg, iter, ifs, as⟩] scope _ =>
      if as = 0 ∧ G.calm = true ∧ isSet iter = false ∧ blkC G.N (scOf G.names) scope (ownOf G.N scope.names) = true then
        (cI n G tg iter).bind fun it => (cG n { G with names := scope.names } tg).bind fun q => if (q.2.all fun i => (ownIx G.N scope.names).contains i) = true then
          (match ifs with
            | [] => some yesM
            | [c] => cT n { G with names := scope.names } c
            | _ => none).bind fun tt => (cE n { G with names := scope.names } elt).bind fun te => (frcL (ownIx G.N scope.names)).bind fun ix => some (lcG fin ix it q.1 tt te)
        else none
      else none
    | _ => none
def cQ : Nat → SC → Expr → Option (Env → M Vl)
  | 0, _, _ => none
  | n + 1, G, e => match e with
    | .SetComp elt [⟨tg, iter, ifs, as⟩] scope _ =>
      if as = 0 ∧ G.calm = true ∧ isSet iter = false ∧ blkC G.N (scOf G.names) scope (ownOf G.N scope.names) = true then
        (cI n G tg iter).bind fun it => (cG n { G with names := scope.names } tg).bind fun q => if (q.2.all fun i => (ownIx G.N scope.names).contains i) = true then
          (match ifs with
            | [] => some yesM
            | [c] => cT n { G with names := scope.names } c
            | _ => none).bind fun tt => (cE n { G with names := scope.names } elt).bind fun te => (frcL (ownIx G.N scope.names)).bind fun ix => some (scG G.so ix it q.1 tt (scAdd te))
        else none
      else none
    | .SetComp elt [⟨tg, iter, ifs, as⟩, ⟨tg1, iter1, ifs1, as1⟩] scope _ =>
      if as = 0 ∧ G.calm = true ∧ isSet iter = false ∧ blkC G.N (scOf G.names) scope (ownOf G.N scope.names) = true ∧ as1 = 0 ∧ isSet iter1 = false then
        (cI n G tg iter).bind fun it => (cG n { G with names := scope.names } tg).bind fun q => if (q.2.all fun i => (ownIx G.N scope.names).contains i) = true then
          (match ifs with
            | [] => some yesM
            | [c] => cT n { G with names := scope.names } c
            | _ => none).bind fun tt => (cE n { G with names := scope.names } elt).bind fun te => (frcL (ownIx G.N scope.names)).bind fun ix =>
          (cI n { G with names := scope.names } tg1 iter1).bind fun it1 => (cG n { G with names := scope.names } tg1).bind fun q1 => if (q1.2.all fun i => (ownIx G.N scope.names).contains i) = true then
          (match ifs1 with
            | [] => some yesM
            | [c] => cT n { G with names := scope.names } c
            | _ => none).bind fun tt1 => some (scG G.so ix it q.1 tt (scCl q1.2 it1 q1.1 tt1 (scAdd te)))
          else none
        else none
      else none
    | _ => none
def cC : Nat → SC → Expr → Option (Env → M Vl)
  | 0, _, _ => none
  | n + 1, G, e => match e with
    | .List es _ => if noStar es = true then (cA n G es).bind fun f => some (lstC f) else none
    | .Call (.Name x _) [a] [] _ => if (okName x && noStar [a]) = true ∧ G.names.lookup x = some .globalImplicit ∧ (G.glob x).isNone = true then
        if x = "list" ∧ dnE G a = true ∧ G.calm = true then (cA n G [a]).bind fun f => some (callP (l1 pListK1) f) else
        if x = "list" then (cA n G [a]).bind fun f => some (callP pListC f) else
        if x = "sorted" then (cA n G [a]).bind fun f => some (callP (l1 pSortedC1) f) else
        if x = "dict" ∧ G.calm = true then (cA n G [a]).bind fun f => some (callP (l1 pDictC1) f) else none
      else none
    | .ListComp elt gs scope pos => cL n G newC (.ListComp elt gs scope pos)
    | .Dict [] [] _ => some fun _ => newDC []
    | .Dict [some (.Tuple es c p)] [v] _ => (cE n G (.Tuple es c p)).bind fun f => (cE n G v).bind fun g => some (dispK f g)
    | .Dict (k :: ks) vs _ => if (k :: ks).length ≤ 15 then (cP n G (k :: ks) vs).bind fun l => some (dctG newDC l) else none
    | _ => none
def cP : Nat → SC → List (Option Expr) → List Expr → Option (List ((Env → M Vl) × (Env → M Vl)))
  | 0, _, _, _ => none
  | n + 1, G, ks, vs => match ks, vs with
    | [], [] => some []
    | some k :: ks, v :: vs => (cE n G k).bind fun f => (cE n G v).bind fun g => (cP n G ks vs).bind fun l => some ((f, g) :: l)
    | _, _ => none
end

section
variable {X : Cx} {W : WX} {G : SC}
theorem okName_parts {x : Str} (h : okName x = true) : (x == ("__debug__" : Str)) = false ∧ (x == ("__classdict__" : Str)) = false ∧ x ≠ "__name__" := by
  unfold okName at h
  simp only [Bool.and_eq_true, Bool.not_eq_true'] at h
  exact ⟨h.1.1, h.1.2, by intro e; subst e; simp at h⟩
theorem binP_ok {op : Operator} {p : P2} (h : binP op = some p) : PrOk X (f2 (binaryOp op)) (l2 p) := by
  cases op <;> simp only [binP, Option.some.injEq, reduceCtorEq] at h <;> subst h
  · exact ok_add
  · exact ok_sub
  · exact ok_mulA
  · exact ok_mod
  · exact ok_pow
  · exact ok_fdiv
theorem cmpP_ok (O : Ok G W X) (op : CmpOp) : PrOk X (f2 (compareOp op)) (l2 (cmpP op)) := by
  have hu := O.units
  cases op
  · exact ok_eq (by omega)
  · exact ok_ne (by omega)
  · exact ok_lt
  · exact ok_le
  · exact ok_gt
  · exact ok_ge
  · exact ok_is
  · exact ok_isnt
  · exact ok_inA hu
  · exact ok_notinA hu
theorem tyName_ok {x : Str} {t : Ty} (h : tyName x = some t) : x ∈ bltNames ∧ bootBuiltins x = some (.type t.name) := by
  unfold tyName at h
  split at h
  · rename_i e; cases h; subst e; exact ⟨by decide +kernel, by decide +kernel⟩
  split at h
  · rename_i e; cases h; subst e; exact ⟨by decide +kernel, by decide +kernel⟩
  split at h
  · rename_i e; cases h; subst e; exact ⟨by decide +kernel, by decide +kernel⟩
  split at h
  · rename_i e; cases h; subst e; exact ⟨by decide +kernel, by decide +kernel⟩
  split at h
  · rename_i e; cases h; subst e; exact ⟨by decide +kernel, by decide +kernel⟩
  split at h
  · rename_i e; cases h; subst e; exact ⟨by decide +kernel, by decide +kernel⟩
  · cases h
theorem ev_ty {e : Expr} {t : Ty} (h : PE X e (tC (.ty t.name))) : PE X e (gE X W (tyM t)) :=
  h.weak fun σ H Q ⟨μ, ρ, st, re, S, h⟩ => h.here S (.ty t)
theorem ite_of {α : Type} {c : Prop} [Decidable c] {a b : Option α} {p : α} (h : (if c then a else b) = some p) : (c ∧ a = some p) ∨ (¬ c ∧ b = some p) := by
  by_cases q : c
  · rw [if_pos q] at h; exact .inl ⟨q, h⟩
  · rw [if_neg q] at h; exact .inr ⟨q, h⟩
theorem bltP_ok {calm : Bool} (hu : X.A.units + 66 < cLine) (gd : X.A.guards = some []) (hc : calm = true → X.calm = true) {x : Str} {p : Pr} (h : bltP calm x = some p) : x ∈ bltNames ∧ ((∃ id, bootBuiltins x = some (.builtin id) ∧ PrOk X (fun us => call (.builtin id) us) p) ∨ ∃ id, bootBuiltins x = some (.type id) ∧ PrOk X (fun us => call (.type id) us) p) := by
  unfold bltP at h
  rcases ite_of h with ⟨e, h⟩ | ⟨_, h⟩
  · cases h; subst e; exact ⟨by decide +kernel, .inl ⟨"isinstance", by decide +kernel, ok_isi⟩⟩
  rcases ite_of h with ⟨e, h⟩ | ⟨_, h⟩
  · cases h; subst e; exact ⟨by decide +kernel, .inl ⟨"repr", by decide +kernel, ok_repr hu gd⟩⟩
  rcases ite_of h with ⟨e, h⟩ | ⟨_, h⟩
  · cases h; subst e; exact ⟨by decide +kernel, .inl ⟨"sorted", by decide +kernel, ok_sorted hu⟩⟩
  rcases ite_of h with ⟨e, h⟩ | ⟨_, h⟩
  · cases h; subst e; exact ⟨by decide +kernel, .inl ⟨"len", by decide +kernel, ok_lenA⟩⟩
  rcases ite_of h with ⟨e, h⟩ | ⟨_, h⟩
  · cases h; subst e; exact ⟨by decide +kernel, .inl ⟨"abs", by decide +kernel, ok_abs⟩⟩
  rcases ite_of h with ⟨e, h⟩ | ⟨_, h⟩
  · cases h; subst e; exact ⟨by decide +kernel, .inr ⟨"int", by decide +kernel, ok_int⟩⟩
  rcases ite_of h with ⟨e, h⟩ | ⟨_, h⟩
  · cases h; subst e; exact ⟨by decide +kernel, .inr ⟨"list", by decide +kernel, ok_list⟩⟩
  rcases ite_of h with ⟨e, h⟩ | ⟨_, h⟩
  · cases h; subst e; exact ⟨by decide +kernel, .inr ⟨"tuple", by decide +kernel, ok_tuple⟩⟩
  rcases ite_of h with ⟨c, h⟩ | ⟨_, h⟩
  · have hc := hc c
    rcases ite_of h with ⟨e, h⟩ | ⟨_, h⟩
    · cases h; subst e; exact ⟨by decide +kernel, .inl ⟨"max", by decide +kernel, ok_max hc⟩⟩
    rcases ite_of h with ⟨e, h⟩ | ⟨_, h⟩
    · cases h; subst e; exact ⟨by decide +kernel, .inl ⟨"min", by decide +kernel, ok_min hc⟩⟩
    rcases ite_of h with ⟨e, h⟩ | ⟨_, h⟩
    · cases h; subst e; exact ⟨by decide +kernel, .inl ⟨"all", by decide +kernel, ok_all hc⟩⟩
    rcases ite_of h with ⟨e, h⟩ | ⟨_, h⟩
    · cases h; subst e; exact ⟨by decide +kernel, .inl ⟨"any", by decide +kernel, ok_any hc⟩⟩
    rcases ite_of h with ⟨e, h⟩ | ⟨_, h⟩
    · cases h; subst e; exact ⟨by decide +kernel, .inr ⟨"dict", by decide +kernel, ok_dict hc⟩⟩
    rcases ite_of h with ⟨e, h⟩ | ⟨_, h⟩
    · cases h; subst e; exact ⟨by decide +kernel, .inl ⟨"sum", by decide +kernel, ok_sum hc⟩⟩
    · cases h
  · cases h

theorem dctOf_ok (O : Ok G W X) {e : Expr} {q : Str × List (Str × DV)} (h : dctOf G e = some q) : DcOk X q.1 q.2 := by
  unfold dctOf at h
  split at h
  · split at h
    · split at h
      · rename_i hg
        cases h
        exact O.dc _ _ hg
      · cases h
    · cases h
  · cases h
theorem cmpQ_ok (O : Ok G W X) {op : CmpOp} {b : Expr} {p : P2} (h : cmpQ G op b = some p) : PrOk X (f2 (compareOp op)) (l2 p) := by
  unfold cmpQ at h
  split at h
  · cases op <;> cases h <;> first | exact ok_eqN O.units | exact cmpP_ok O _
  split at h
  · cases op <;> cases h <;> first | exact ok_inK O.units | exact ok_ninK O.units | exact cmpP_ok O _
  split at h
  · cases op <;> cases h <;> first | exact ok_inS | exact ok_notinS | exact cmpP_ok O _
  cases e : dctOf G b with
  | none => rw [e] at h; cases h; exact cmpP_ok O op
  | some q =>
    rw [e] at h
    have d := dctOf_ok O e
    dsimp only at h
    cases op <;> cases h <;> first | exact ok_inD d | exact ok_notinD d | exact cmpP_ok O _
theorem bltQ_ok (O : Ok G W X) {x : Str} {es : List Expr} {p : Pr} (h : bltQ G x es = some p) : x ∈ bltNames ∧ ((∃ id, bootBuiltins x = some (.builtin id) ∧ PrOk X (fun us => call (.builtin id) us) p) ∨ ∃ id, bootBuiltins x = some (.type id) ∧ PrOk X (fun us => call (.type id) us) p) := by
  unfold bltQ at h
  split at h
  · rcases ite_of h with ⟨⟨e, _, hc⟩, h⟩ | ⟨_, h⟩
    · obtain ⟨q, hq, rfl⟩ := Option.map_eq_some_iff.mp h
      subst e
      exact ⟨by decide +kernel, .inl ⟨"sorted", by decide +kernel, ok_sortedD (O.calm hc) (dctOf_ok O hq)⟩⟩
    rcases ite_of h with ⟨⟨e, hc⟩, h⟩ | ⟨_, h⟩
    · cases h; subst e; exact ⟨by decide +kernel, .inr ⟨"set", by decide +kernel, ok_setL (O.calm hc) O.so⟩⟩
    rcases ite_of h with ⟨⟨_, e, hc⟩, h⟩ | ⟨_, h⟩
    · cases h; subst e; exact ⟨by decide +kernel, .inl ⟨"sorted", by decide +kernel, ok_sortedS (O.calm hc) O.so⟩⟩
    rcases ite_of h with ⟨⟨_, e⟩, h⟩ | ⟨_, h⟩
    · cases h; subst e; exact ⟨by decide +kernel, .inl ⟨"len", by decide +kernel, ok_lenS⟩⟩
    · exact bltP_ok O.units O.gd O.calm h
  · exact bltP_ok O.units O.gd O.calm h
theorem ev_ixA (O : Ok G W X) {a b : Expr} {f g : Env → M Vl} {pos : Pos} (ha : PE X a (gE X W f)) (hb : PE X b (gE X W g)) (hs : PlainIx b) : PE X (.Subscript a b pos) (gE X W (bin pIxA2 f g)) :=
  (pe_ix (rx_all O.units) ha hb hs).weak fun σ H Q h => tOp_of h
theorem ev_ixQ (O : Ok G W X) {a b : Expr} {f g : Env → M Vl} {pos : Pos} {p : P2} (h : ixQ G a = some p) (ha : PE X a (gE X W f)) (hb : PE X b (gE X W g)) (hs : PlainIx b) : PE X (.Subscript a b pos) (gE X W (bin p f g)) := by
  unfold ixQ at h
  cases e : dctOf G a with
  | none => rw [e] at h; cases h; exact ev_ixA O ha hb hs
  | some q => rw [e] at h; cases h; exact ev_ixD (dctOf_ok O e) ha hb hs
theorem kwN_ok : ∀ {kws : List Keyword} {ks : List Str}, kwN kws = some ks → kws.map (·.arg) = ks.map some
  | [], ks, h => by cases h; rfl
  | q :: r, ks, h => by
    unfold kwN at h
    cases e : q.arg with
    | none => rw [e] at h; cases h
    | some y =>
      rw [e] at h
      obtain ⟨ks', h', rfl⟩ := Option.map_eq_some_iff.mp h
      rw [List.map_cons, e, kwN_ok h']
      rfl
theorem plain_base {o : Expr} {m : Str} {env : PySem.Env} (h : isPlain o = true) : attributeBase o m env (eval o env) = eval o env := by
  cases o <;> first | rfl | (simp [isPlain] at h)
theorem mt1_ok {m : Str} {p : P1} {o : Expr} {f : Env → M Vl} {apos cpos : Pos} (h : mt1 m = some p) (ho : PE X o (gE X W f)) (hb : isPlain o = true) (hl : (apos.endLine == cpos.line) = true) : PE X (.Call (.Attribute o m apos) [] [] cpos) (gE X W (meth1 p f)) := by
  unfold mt1 at h
  split at h
  · rename_i e; subst e; cases h; exact ev_meth1 PySem.F.slot_list_pop PySem.F.type_list_pop mt_popW ho (plain_base hb) hl
  · cases h
theorem mt2_ok {m : Str} {p : P2} {o e : Expr} {f g : Env → M Vl} {apos cpos : Pos} (h : mt2 m = some p) (ho : PE X o (gE X W f)) (he : PE X e (gE X W g)) (hb : isPlain o = true) (hl : (apos.endLine == cpos.line) = true) (hs : noStar [e] = true) : PE X (.Call (.Attribute o m apos) [e] [] cpos) (gE X W (meth2 p f g)) := by
  unfold mt2 at h
  split at h
  · rename_i e; subst e; cases h; exact ev_meth2 PySem.F.slot_list_append PySem.F.type_list_append mt_appendW ho he (plain_base hb) hl hs
  split at h
  · rename_i e; subst e; cases h; exact ev_meth2 PySem.F.slot_list_pop PySem.F.type_list_pop mt_popAtW ho he (plain_base hb) hl hs
  split at h
  · rename_i e; subst e; cases h; exact ev_meth2 PySem.F.slot_list_extend PySem.F.type_list_extend mt_extendW ho he (plain_base hb) hl hs
  · cases h
theorem lookup_map_key {α β : Type} (f : Str × α → Str × β) (hf : ∀ y, (f y).1 = y.1) (x : Str) : ∀ names : List (Str × α), (names.map f).lookup x = (names.lookup x).map fun k => (f (x, k)).2
  | [] => rfl
  | (n, k) :: r => by
    have e : f (n, k) = (n, (f (n, k)).2) := Prod.ext (hf _) rfl
    rw [List.map_cons, e, List.lookup_cons, List.lookup_cons]
    by_cases q : x = n
    · subst q
      simp
    · have q' : (x == n) = false := by simpa using q
      rw [q']
      exact lookup_map_key f hf x r
theorem relab {sc scope : Scope} {x : Str} (h : scope.names.lookup x = some .free) : (relS scope sc).names.lookup x = some .cell ∨ (relS scope sc).names.lookup x = some .free := by
  unfold relS
  show (List.map _ scope.names).lookup x = _ ∨ (List.map _ scope.names).lookup x = _
  rw [lookup_map_key _ (fun y => by obtain ⟨n, k⟩ := y; dsimp only; split <;> rfl), h]
  simp only [Option.map_some, Option.some.injEq]
  split
  · exact .inl rfl
  · exact .inr rfl
/-- a comprehension's block -/
theorem Ok.blk (O : Ok G W X) {scope : Scope} {own : List (Str × Nat)} (b : BlkOk X.N X.env.scope scope own) (s : Shared) (H : Hp) (C : Addr) (cl : List (Str × Addr)) (fp : List Addr) :
    Ok { G with names := scope.names } W0 (X.blk s H scope (compEnvC scope cl C X.env) fp) where
  N := O.N
  nd := O.nd
  vis := fun x k h hk => by
    have key : ∀ k', k' ≠ .free → scope.names.lookup x = some k' → (relS scope X.env.scope).names.lookup x = some k' := fun k' h1 h2 => lookup_relS_keep h1 h2
    rcases hk with rfl | rfl | rfl
    · exact .inl (key _ (by decide) h)
    · exact .inr (.inl (key _ (by decide) h))
    · rcases relab h with e | e
      · exact .inr (.inl e)
      · exact .inr (.inr e)
  loc := fun x k h hk => by
    rcases hk with rfl | rfl
    · exact ⟨.inl (lookup_relS_keep (by decide) h), .inr (lookup_relS_keep (by decide) h)⟩
    · exact ⟨.inr (lookup_relS_keep (by decide) h), .inl (by show (scope.names.lookup x == some .cell) = true; rw [h]; rfl)⟩
  lol := fun x h => lookup_relS_keep (by decide) h
  cf := fun x k h hk => by
    rcases hk with rfl | rfl
    · exact .inl (lookup_relS_keep (by decide) h)
    · exact relab h
  gl := fun x h => lookup_relS_keep (by decide) h
  calm := O.calm
  so := O.so
  code := O.code
  units := O.units
  gd := O.gd
  tk := takes0
  cst := O.cst
  fn := O.fn
  dc := O.dc
  cl := O.cl
  blt := O.blt
  fns := O.fns
end
end Iv
set_option Elab.async false
set_option linter.all false
set_option maxRecDepth 100000
set_option maxHeartbeats 8000000
/-! Iv10: what an expression's text computes, the machine does. -/
namespace Iv
open PySem PySem.Spec PyProof.Rows L2
section
variable {X : Cx} {W : WX} {G : SC}
theorem Ok.slotN (O : Ok G W X) {x : Str} {i : Nat} (h : slot G.N x = some i) : X.N[i]? = some x := by rw [O.N]; exact slot_get h
theorem assign_cons {e : Expr} {es : List Expr} {env : PySem.Env} (h : noStar (e :: es) = true) : assignEach (e :: es) env = (false, assign e env) :: assignEach es env := by
  cases e <;> first | rfl | (simp [noStar] at h)
theorem assign_len {env : PySem.Env} : ∀ {es : List Expr}, noStar es = true → (assignEach es env).length = es.length ∧ (assignEach es env).findIdx? (·.1) = none
  | [], _ => ⟨rfl, rfl⟩
  | e :: es, h => by
    obtain ⟨h1, h2⟩ := assign_len (env := env) (star_tail h)
    rw [assign_cons h]
    refine ⟨by simp [h1], ?_⟩
    rw [List.findIdx?_cons]
    simp [h2]
theorem cG_ok : ∀ (n : Nat) {G : SC} {W : WX} {X : Cx}, Ok G W X → ∀ {tg : Expr} {q : Asg × List Nat}, cG n G tg = some q → PG X tg (gG X q.1 q.2)
  | 0, _, _, _, _, _, _, h => by cases h
  | n + 1, G, W, X, O, .Name x pos, q, h => by
    simp only [cG] at h
    obtain ⟨i, hi, h⟩ := some_bind h
    split at h
    · rename_i hk; cases h; exact eg_name O.nd (O.slotN hi) (O.loc _ _ hk (.inl rfl)).1 (O.loc _ _ hk (.inl rfl)).2
    · rename_i hk; cases h; exact eg_name O.nd (O.slotN hi) (O.loc _ _ hk (.inr rfl)).1 (O.loc _ _ hk (.inr rfl)).2
    · cases h
  | n + 1, G, W, X, O, .Tuple es k pos, q, h => by
    simp only [cG] at h
    split at h
    · rename_i hc
      obtain ⟨q', h', rfl⟩ := Option.map_eq_some_iff.mp h
      have key : ∀ (es : List Expr) (q' : (List PyData → Env → Option Env) × List Nat), noStar es = true → es.foldr (fun e r => (cG n G e).bind fun m => r.map fun q => (aCons m.1 q.1, m.2 ++ q.2)) (some (aNil, [])) = some q' → PGs X es (gGs X q'.1 q'.2) := by
        intro es
        induction es with
        | nil => intro q' _ h; cases h; exact eg_nil
        | cons e es ih =>
          intro q' hs h
          rw [List.foldr_cons] at h
          obtain ⟨m, hm, h⟩ := some_bind h
          obtain ⟨q2, h2, rfl⟩ := Option.map_eq_some_iff.mp h
          exact eg_cons (cG_ok n O hm) (ih q2 (star_tail hs) h2) (by rw [assign_cons hs]; rfl)
      exact eg_tup (O.calm hc.1) (key es q' hc.2 h') (assign_len hc.2).1 (assign_len hc.2).2
    · cases h
  | n + 1, G, W, X, O, .BoolOp .., q, h => by cases h
  | n + 1, G, W, X, O, .NamedExpr .., q, h => by cases h
  | n + 1, G, W, X, O, .BinOp .., q, h => by cases h
  | n + 1, G, W, X, O, .UnaryOp .., q, h => by cases h
  | n + 1, G, W, X, O, .Lambda .., q, h => by cases h
  | n + 1, G, W, X, O, .IfExp .., q, h => by cases h
  | n + 1, G, W, X, O, .Dict .., q, h => by cases h
  | n + 1, G, W, X, O, .Set .., q, h => by cases h
  | n + 1, G, W, X, O, .ListComp .., q, h => by cases h
  | n + 1, G, W, X, O, .SetComp .., q, h => by cases h
  | n + 1, G, W, X, O, .DictComp .., q, h => by cases h
  | n + 1, G, W, X, O, .GeneratorExp .., q, h => by cases h
  | n + 1, G, W, X, O, .Await .., q, h => by cases h
  | n + 1, G, W, X, O, .Yield .., q, h => by cases h
  | n + 1, G, W, X, O, .YieldFrom .., q, h => by cases h
  | n + 1, G, W, X, O, .Compare .., q, h => by cases h
  | n + 1, G, W, X, O, .Call .., q, h => by cases h
  | n + 1, G, W, X, O, .FormattedValue .., q, h => by cases h
  | n + 1, G, W, X, O, .JoinedStr .., q, h => by cases h
  | n + 1, G, W, X, O, .Constant .., q, h => by cases h
  | n + 1, G, W, X, O, .Attribute .., q, h => by cases h
  | n + 1, G, W, X, O, .Subscript .., q, h => by cases h
  | n + 1, G, W, X, O, .Starred .., q, h => by cases h
  | n + 1, G, W, X, O, .List .., q, h => by cases h
  | n + 1, G, W, X, O, .Slice .., q, h => by cases h
/-- a name's kind as the scope that runs has it -/
theorem Ok.blkOk (O : Ok G W X) {scope : Scope} (h : blkC G.N (scOf G.names) scope (ownOf G.N scope.names) = true) : BlkOk X.N X.env.scope scope (ownOf G.N scope.names) := by
  have b := blkOk_by h
  refine ⟨b.kind, b.uniq, by rw [O.N]; exact b.ix, fun y hy e => ?_, by rw [O.N]; exact b.own⟩
  rcases b.free y hy e with q | q
  · exact O.cf _ _ q (.inl rfl)
  · exact O.cf _ _ q (.inr rfl)

/-- a set comprehension and what it computes -/
def SetBun (X : Cx) (W : WX) (e : Expr) (m : Env → M Vl) : Prop :=
  ∃ (elt tg iter : Expr) (ifs : List Expr) (rest : List Comprehension) (scope : Scope) (pos : Pos) (own : List (Str × Nat)) (wi : TI) (g : TG) (tt : TT) (inner : Addr → PySem.Env → Sem Unit) (ti : Addr → L2.St → Hp → (Hp → Prop) → Prop),
    e = .SetComp elt (⟨tg, iter, ifs, 0⟩ :: rest) scope pos ∧ X.calm = true ∧ PI X tg iter wi ∧ BlkOk X.N X.env.scope scope own ∧
    (∀ (s : Shared) (H : Hp) (C : Addr) (cl : List (Str × Addr)) (fp : List Addr), PG (X.blk s H scope (compEnvC scope cl C X.env) fp) tg g) ∧ (∀ (s : Shared) (H : Hp) (C : Addr) (cl : List (Str × Addr)) (fp : List Addr), PTs (X.blk s H scope (compEnvC scope cl C X.env) fp) ifs tt) ∧
    (∀ x, foldedSetIterable iter X.env x = pure x) ∧ SetTurn elt tg iter ifs rest scope pos inner ∧
    (∀ (D : Addr) (s : Shared) (H : Hp) (C : Addr) (cl : List (Str × Addr)) (fp : List Addr), PIn (X.blk s H scope (compEnvC scope cl C X.env) fp) (inner D (compEnvC scope cl C X.env)) (ti D) (own.map (·.2))) ∧
    ∀ σ H Q, gE X W m σ H Q → tSetc X.w wi g tt ti (own.map (·.2)) σ H Q
theorem SetBun.pe {e : Expr} {m : Env → M Vl} (h : SetBun X W e m) (hN : X.N.Nodup) : PE X e (gE X W m) := by
  obtain ⟨elt, tg, iter, ifs, rest, scope, pos, own, wi, g, tt, inner, ti, rfl, hc, hi, ok, hg, ht, hs, heq, hin, w⟩ := h
  exact (pe_setc hc hN hi ok hg ht hs heq hin).weak w
structure CompOk (n : Nat) (G : SC) (W : WX) (X : Cx) : Prop where
  e : ∀ e m, cE n G e = some m → PE X e (gE X W m)
  t : ∀ e m, cT n G e = some m → PT X e (gT X W m)
  w : ∀ op es pos m, cW n G op es = some m → PW X (.BoolOp op es pos) (gT X W m)
  v : ∀ op es pos m, cV n G op es = some m → PE X (.BoolOp op es pos) (gE X W m)
  a : ∀ es m, noStar es = true → cA n G es = some m → PA X es (gA X W m)
  k : ∀ (kws : List Keyword) m, cA n G (kws.map (·.value)) = some m → PK X kws (gA X W m)
  o : ∀ e m, cO n G e = some m → PO X e (gO X W m)
  i : ∀ tg e m, cI n G tg e = some m → PI X tg e (gI X W m)
  l : ∀ fin, FinOk X fin → ∀ e m, cL n G fin e = some m → PE X e (gE X W m)
  q : ∀ e m, cQ n G e = some m → SetBun X W e m
  c : ∀ e m, cC n G e = some m → PE X e (gE X W m)
  p : ∀ pos ks vs l, cP n G ks vs = some l → PPs X pos ks vs (l.map fun q => (gE X W q.1, gE X W q.2)) ∧ ks.all (·.isSome) = true ∧ ks.length = vs.length ∧ l.length = ks.length

theorem comp_ok : ∀ (n : Nat) {G : SC} {W : WX} {X : Cx}, Ok G W X → CompOk n G W X := by
  intro n
  induction n with
  | zero => intro G W X O; refine ⟨?_, ?_, ?_, ?_, ?_, ?_, ?_, ?_, ?_, ?_, ?_, ?_⟩ <;> (intros; rename_i h; simp [cE, cT, cW, cV, cA, cO, cI, cL, cQ, cC, cP] at h)
  | succ n ih =>
    intro G W X O
    have I := ih O
    refine ⟨fun e m h => ?_, fun e m h => ?_, fun op es pos m h => ?_, fun op es pos m h => ?_, fun es m hs h => ?_, fun kws m h => ?_, fun o m h => ?_, fun tg e m h => ?_, fun fin hfin e m h => ?_, fun e m h => ?_, fun e m h => ?_, fun pos ks vs l h => ?_⟩
    · unfold cE at h
      split at h
      · cases h; exact ev_c pe_non fun _ _ => .non
      · cases h; exact ev_c pe_bl fun _ _ => .bl _
      · cases h; exact ev_c pe_int fun _ _ => .int _
      · cases h; exact ev_c pe_str fun _ _ => .str _
      · -- a name
        split at h
        · rename_i ho
          obtain ⟨h1, h2, h3⟩ := okName_parts ho
          split at h
          · rename_i hk; obtain ⟨i, hi, rfl⟩ := Option.map_eq_some_iff.mp h; exact ev_var (O.slotN hi) (O.vis _ _ hk (.inl rfl)) h1 h2
          · rename_i hk; obtain ⟨i, hi, rfl⟩ := Option.map_eq_some_iff.mp h; exact ev_var (O.slotN hi) (O.vis _ _ hk (.inr (.inl rfl))) h1 h2
          · rename_i hk; obtain ⟨i, hi, rfl⟩ := Option.map_eq_some_iff.mp h; exact ev_var (O.slotN hi) (O.vis _ _ hk (.inr (.inr rfl))) h1 h2
          · rename_i hk
            split at h
            · rename_i d hg
              cases h
              obtain ⟨u, v, e1, e2, e3⟩ := O.cst _ _ hg
              exact ev_c (pe_glob (O.gl _ hk) e1 e2 h1) e3
            · rename_i k hg
              cases h
              obtain ⟨a, e1⟩ := O.fn _ _ hg
              exact ev_gl (pe_glob (O.gl _ hk) e1 rfl h1) e1
            · rename_i k hg
              cases h
              obtain ⟨a, es, n', e1, _⟩ := O.dc _ _ hg
              exact ev_gl (pe_glob (O.gl _ hk) e1 rfl h1) e1
            · rename_i hg
              cases h
              obtain ⟨a, e1⟩ := O.cl _ hg
              exact ev_gl (pe_glob (O.gl _ hk) e1 rfl h1) e1
            · rename_i hg
              obtain ⟨t, ht, rfl⟩ := Option.map_eq_some_iff.mp h
              obtain ⟨b1, b2⟩ := tyName_ok ht
              exact ev_ty (pe_bltn (O.gl _ hk) (O.blt _ hg b1) b2 rfl h3 h1)
          · cases h
        · cases h
      · obtain ⟨p, hp, h⟩ := some_bind h; obtain ⟨f, hf, h⟩ := some_bind h; obtain ⟨g, hg, h⟩ := some_bind h; cases h
        exact ev_bin (binP_ok hp) (I.e _ _ hf) (I.e _ _ hg)
      · obtain ⟨f, hf, h⟩ := some_bind h; cases h; exact ev_un ok_neg (I.e _ _ hf)
      · obtain ⟨f, hf, h⟩ := some_bind h; cases h; exact ev_not (I.e _ _ hf)
      · exact I.v _ _ _ _ h
      · split at h
        · rename_i hm
          obtain ⟨f, hf, h⟩ := some_bind h; obtain ⟨g, hg, h⟩ := some_bind h; obtain ⟨p, hp, h⟩ := some_bind h; cases h
          exact ev_cmp (cmpQ_ok O hp) (I.e _ _ hf) (I.e _ _ hg) hm
        · cases h
      · split at h
        · rename_i hm
          obtain ⟨f, hf, h⟩ := some_bind h; obtain ⟨g, hg, h⟩ := some_bind h; obtain ⟨k, hk, h⟩ := some_bind h; cases h
          exact ev_chain (cmpP_ok O _) (cmpP_ok O _) (I.e _ _ hf) (I.e _ _ hg) (I.e _ _ hk) hm
        · cases h
      · obtain ⟨k, hk, h⟩ := some_bind h; obtain ⟨f, hf, h⟩ := some_bind h; obtain ⟨g, hg, h⟩ := some_bind h; cases h
        exact ev_if (I.t _ _ hk) (I.e _ _ hf) (I.e _ _ hg)
      · split at h
        · rename_i hs; obtain ⟨f, hf, h⟩ := some_bind h; cases h; exact ev_tup (I.a _ _ hs hf)
        · cases h
      · split at h
        · rename_i hs; obtain ⟨f, hf, h⟩ := some_bind h; cases h; exact ev_lst (I.a _ _ hs hf)
        · cases h
      · obtain ⟨f, hf, h⟩ := some_bind h; obtain ⟨l, hl, h⟩ := some_bind h; obtain ⟨u, hu, h⟩ := some_bind h; cases h
        exact ev_slice (I.e _ _ hf) (I.o _ _ hl) (I.o _ _ hu)
      · cases h
      · rename_i a b pos n1 n2
        obtain ⟨f, hf, h⟩ := some_bind h; obtain ⟨g, hg, h⟩ := some_bind h; obtain ⟨p, hp, h⟩ := some_bind h; cases h
        refine ev_ixQ O hp (I.e _ _ hf) (I.e _ _ hg) ?_
        intro o i
        cases b with
        | Slice lo hi st ps =>
          cases st with
          | none => exact (n1 lo hi ps rfl).elim
          | some s => exact (n2 lo hi s ps rfl).elim
        | _ => rfl
      · -- a call without arguments
        split at h
        · rename_i ho
          obtain ⟨h1, h2, h3⟩ := okName_parts ho
          split at h
          · rename_i hk
            split at h
            · rename_i i hg
              split at h
              · rename_i hc
                obtain ⟨hca, hsh, h0⟩ := hc
                obtain ⟨a, fd, ps, kk, e1, e2, e3, e4, e5, e6⟩ := O.fns hca _ _ hg
                obtain ⟨k, hk', h⟩ := some_bind h
                cases h
                rw [frcN_ok hk']
                rw [h0] at e6
                exact ev_call0 O.tk e6 e5 O.gd (O.gl _ hk) e2 e3 (bindsK0 (e4 _ hsh) h0 e1) h1
              · cases h
            · cases h
          · cases h
        · cases h
      · -- a call
        split at h
        · rename_i ho
          simp only [Bool.and_eq_true] at ho
          obtain ⟨h1, h2, h3⟩ := okName_parts ho.1
          split at h
          · rename_i hk
            split at h
            · rename_i i hg
              split at h
              · rename_i hc
                obtain ⟨f, hf, h⟩ := some_bind h
                obtain ⟨a, fd, ps, kk, e1, e2, e3, e4, e5, e6⟩ := O.fns hc.1 _ _ hg
                split at h
                · rename_i h0
                  obtain ⟨k, hk', h⟩ := some_bind h
                  cases h
                  rw [frcN_ok hk']
                  rw [h0] at e6
                  exact ev_call O.tk e6 e5 O.gd (O.gl _ hk) e2 e3 (bindsK0 (e4 _ hc.2) h0 e1) (I.a _ _ ho.2 hf) ho.2 h1
                · cases h
                  exact ev_callK O.tk e6 e5 O.gd (O.gl _ hk) e2 e3 (e4 _ hc.2) (I.a _ _ ho.2 hf) (pk_nil.weak fun σ H Q ⟨μ, ρ, st, re, S, h⟩ => h.here S .nil) ho.2 rfl h1
              · cases h
            · cases h
            · rename_i hg
              obtain ⟨p, hp, h⟩ := some_bind h; obtain ⟨f, hf, h⟩ := some_bind h; cases h
              obtain ⟨hb, ⟨id, b1, b2⟩ | ⟨id, b1, b2⟩⟩ := bltQ_ok O hp
              · exact ev_callB b2 (O.gl _ hk) (O.blt _ hg hb) b1 (I.a _ _ ho.2 hf) ho.2 h3 h1
              · exact ev_callTy b2 (O.gl _ hk) (O.blt _ hg hb) b1 (I.a _ _ ho.2 hf) ho.2 h3 h1
          · rename_i hk
            split at h
            · rename_i hc
              obtain ⟨i, hi, h⟩ := some_bind h; obtain ⟨g, hg, h⟩ := some_bind h; cases h
              exact ev_callDn O.tk O.gd (O.fns hc) (ev_var (O.slotN hi) (O.vis _ _ hk (.inl rfl)) h1 h2) (I.a _ _ ho.2 hg) ho.2
            · cases h
          · rename_i hk
            split at h
            · rename_i hc
              obtain ⟨i, hi, h⟩ := some_bind h; obtain ⟨g, hg, h⟩ := some_bind h; cases h
              exact ev_callDn O.tk O.gd (O.fns hc) (ev_var (O.slotN hi) (O.vis _ _ hk (.inr (.inl rfl))) h1 h2) (I.a _ _ ho.2 hg) ho.2
            · cases h
          · cases h
        · cases h
      · -- with keywords
        split at h
        · rename_i ho
          simp only [Bool.and_eq_true] at ho
          obtain ⟨h1, h2, h3⟩ := okName_parts ho.1
          split at h
          · rename_i hk
            split at h
            · rename_i i hg
              obtain ⟨ks, hks, h⟩ := some_bind h
              split at h
              · rename_i hc
                obtain ⟨f, hf, h⟩ := some_bind h; obtain ⟨g, hg', h⟩ := some_bind h; cases h
                obtain ⟨a, fd, ps, kk, e1, e2, e3, e4, e5, e6⟩ := O.fns hc.1 _ _ hg
                exact ev_callK O.tk e6 e5 O.gd (O.gl _ hk) e2 e3 (e4 _ hc.2) (I.a _ _ ho.2 hf) (I.k _ _ hg') ho.2 (kwN_ok hks) h1
              · cases h
            · cases h
          · cases h
        · cases h
      · -- of what is read
        split at h
        · rename_i hc
          obtain ⟨f, hf, h⟩ := some_bind h; obtain ⟨g, hg, h⟩ := some_bind h; cases h
          exact ev_callDs O.tk O.gd (O.fns hc.1) (I.e _ _ hf) (I.a _ _ hc.2 hg) hc.2
        · cases h
      · -- a method
        split at h
        · rename_i hc
          simp only [Bool.and_eq_true] at hc
          obtain ⟨p, hp, h⟩ := some_bind h; obtain ⟨f, hf, h⟩ := some_bind h; cases h
          exact mt1_ok hp (I.e _ _ hf) hc.1 hc.2
        · cases h
      · exact (I.q _ _ h).pe O.nd
      · split at h
        · rename_i hc
          obtain ⟨rfl, hs⟩ := hc
          obtain ⟨f, hf, h⟩ := some_bind h; cases h
          exact (pe_oneS hs O.code (I.e _ _ hf)).weak fun σ H Q hq => ev_oneS O.so hq
        · cases h
      · split at h
        · rename_i hc
          obtain ⟨_, e, hc⟩ := hc
          subst e
          simp only [Bool.and_eq_true] at hc
          obtain ⟨f, hf, h⟩ := some_bind h; obtain ⟨g, hg, h⟩ := some_bind h; cases h
          exact ev_addS O.so (I.e _ _ hf) (I.e _ _ hg) (plain_base hc.1.1) hc.1.2 hc.2
        split at h
        · rename_i hc
          obtain ⟨e, hc⟩ := hc
          subst e
          simp only [Bool.and_eq_true] at hc
          obtain ⟨f, hf, h⟩ := some_bind h; obtain ⟨g, hg, h⟩ := some_bind h; cases h
          exact ev_updD (I.e _ _ hf) (I.e _ _ hg) (plain_base hc.1.1) hc.1.2 hc.2
        split at h
        · rename_i hc
          simp only [Bool.and_eq_true] at hc
          obtain ⟨p, hp, h⟩ := some_bind h; obtain ⟨f, hf, h⟩ := some_bind h; obtain ⟨g, hg, h⟩ := some_bind h; cases h
          exact mt2_ok hp (I.e _ _ hf) (I.e _ _ hg) hc.1.1 hc.1.2 hc.2
        · cases h
      · exact I.l _ fin_frz _ _ h
      · cases h; exact ev_d0
      · split at h
        · rename_i h15
          obtain ⟨l, hl, h⟩ := some_bind h; cases h
          obtain ⟨p1, p2, p3, p4⟩ := I.p _ _ _ _ hl
          exact ev_disp find_frz p1 p2 p3 (by simp) h15 p4
        · cases h
      · cases h
    · unfold cT at h
      split at h
      · obtain ⟨f, hf, h⟩ := some_bind h; cases h; exact te_not (I.t _ _ hf)
      · exact (I.w _ _ _ _ h).pt
      · cases h
      · split at h
        · rename_i hm
          obtain ⟨f, hf, h⟩ := some_bind h; obtain ⟨g, hg, h⟩ := some_bind h; obtain ⟨p, hp, h⟩ := some_bind h; cases h
          exact te_cmp (cmpQ_ok O hp) (I.e _ _ hf) (I.e _ _ hg) hm
        · cases h
      · split at h
        · rename_i hm
          obtain ⟨f, hf, h⟩ := some_bind h; obtain ⟨g, hg, h⟩ := some_bind h; obtain ⟨k, hk, h⟩ := some_bind h; cases h
          exact te_chain (cmpP_ok O _) (cmpP_ok O _) (I.e _ _ hf) (I.e _ _ hg) (I.e _ _ hk) hm
        · cases h
      · cases h
      · rename_i n1 n2 n3 n4 n5 n6
        obtain ⟨f, hf, h⟩ := some_bind h; cases h
        refine te_val (I.e _ _ hf) ?_
        intro whole
        cases e with
        | UnaryOp op a pos => cases op <;> first | rfl | exact (n1 _ _ rfl).elim
        | BoolOp op es pos => exact (n2 _ _ _ rfl).elim
        | IfExp a b c pos => exact (n3 _ _ _ _ rfl).elim
        | Compare a ops cs pos => exact (n6 _ _ _ _ rfl).elim
        | _ => rfl
    · unfold cW at h
      split at h
      · cases h
      · cases op
        · exact pw_and1 (I.t _ _ h)
        · exact pw_or1 (I.t _ _ h)
      · obtain ⟨f, hf, h⟩ := some_bind h; obtain ⟨g, hg, h⟩ := some_bind h
        cases op
        · cases h; exact tw_and (I.t _ _ hf) (I.w _ _ _ _ hg)
        · cases h; exact tw_or (I.t _ _ hf) (I.w _ _ _ _ hg)
    · unfold cV at h
      split at h
      · cases h
      · exact pe_one (I.e _ _ h)
      · obtain ⟨f, hf, h⟩ := some_bind h; obtain ⟨g, hg, h⟩ := some_bind h
        cases op
        · cases h; exact ev_and (I.e _ _ hf) (I.v _ _ _ _ hg)
        · cases h; exact ev_or (I.e _ _ hf) (I.v _ _ _ _ hg)
    · unfold cA at h
      split at h
      · cases h; exact ev_nil
      · obtain ⟨f, hf, h⟩ := some_bind h; obtain ⟨g, hg, h⟩ := some_bind h; cases h
        exact ev_cons (I.e _ _ hf) (I.a _ _ (star_tail hs) hg) (star_cons hs)
    · cases kws with
      | nil => unfold cA at h; cases h; exact pk_nil.weak fun σ H Q ⟨μ, ρ, st, re, S, h⟩ => h.here S .nil
      | cons q r =>
        obtain ⟨qa, qv, qp⟩ := q
        unfold cA at h
        replace h : ((cE n G qv).bind fun f => (cA n G (r.map (·.value))).bind fun g => some (consM f g)) = some m := h
        obtain ⟨f, hf, h⟩ := some_bind h; obtain ⟨g, hg, h⟩ := some_bind h; cases h
        exact (pk_cons (I.e _ _ hf) (I.k _ _ hg)).weak fun σ H Q ⟨μ, ρ, st, re, S, h⟩ => gE.then (β := Unit) re S h fun v H1 a st1 μ1 re1 S1 ra g1 h1 => gA.then re1 S1 h1 fun vs H2 as st2 μ2 re2 S2 ras g2 h2 => h2.here S2 (.cons (ra.step g2) ras)
    · unfold cO at h
      split at h
      · cases h; exact eo_none
      · obtain ⟨f, hf, h⟩ := some_bind h; cases h; exact eo_some (I.e _ _ hf)
    · unfold cI at h
      split at h
      · split at h
        · rename_i hc
          obtain ⟨rfl, hk, hn⟩ := hc
          split at h
          · rename_i hs
            obtain ⟨f, hf, h⟩ := some_bind h; cases h
            exact ei_rng1 (O.gl _ hk) (O.blt _ (Option.isNone_iff_eq_none.mp hn) (by decide +kernel)) (I.e _ _ hf) hs
          · cases h
        · split at h
          · rename_i hc
            obtain ⟨rfl, hk, hn⟩ := hc
            split at h
            · rename_i hs
              obtain ⟨es, kk, tp, rfl⟩ := isTupT_ok hs.2
              obtain ⟨f, hf, h⟩ := some_bind h; cases h
              exact ei_enum (O.gl _ hk) (O.blt _ (Option.isNone_iff_eq_none.mp hn) (by decide +kernel)) (I.a _ _ hs.1 hf) hs.1
            · cases h
          · obtain ⟨f, hf, h⟩ := some_bind h; cases h; exact ei_val (I.e _ _ hf)
      · split at h
        · rename_i hc
          obtain ⟨rfl, hk, hn⟩ := hc
          split at h
          · rename_i hs
            obtain ⟨f, hf, h⟩ := some_bind h; obtain ⟨g, hg, h⟩ := some_bind h; cases h
            exact ei_rng2 (O.gl _ hk) (O.blt _ (Option.isNone_iff_eq_none.mp hn) (by decide +kernel)) (I.e _ _ hf) (I.e _ _ hg) hs
          · cases h
        · split at h
          · rename_i hc
            obtain ⟨rfl, hk, hn⟩ := hc
            split at h
            · rename_i hs
              obtain ⟨es, kk, tp, rfl⟩ := isTupT_ok hs.2
              obtain ⟨f, hf, h⟩ := some_bind h; cases h
              exact ei_zip (O.gl _ hk) (O.blt _ (Option.isNone_iff_eq_none.mp hn) (by decide +kernel)) (I.a _ _ hs.1 hf) hs.1
            · cases h
          · obtain ⟨f, hf, h⟩ := some_bind h; cases h; exact ei_val (I.e _ _ hf)
      · split at h
        · obtain ⟨f, hf, h⟩ := some_bind h; cases h; exact ei_key (I.e _ _ hf)
        · obtain ⟨f, hf, h⟩ := some_bind h; cases h; exact ei_val (I.e _ _ hf)
    · unfold cL at h
      split at h
      · split at h
        · rename_i elt tg iter ifs as scope pos hc
          obtain ⟨ha, hcalm, hset, hblk⟩ := hc
          subst ha
          obtain ⟨it, hit, h⟩ := some_bind h
          obtain ⟨q, hq, h⟩ := some_bind h
          split at h
          · rename_i hT
            obtain ⟨tt, htt, h⟩ := some_bind h
            obtain ⟨te, hte, h⟩ := some_bind h
            obtain ⟨ix, hix, h⟩ := some_bind h
            cases h
            rw [frcL_ok hix]
            have B := O.blkOk hblk
            have fold : ∀ x, foldedSetIterable iter X.env x = pure x := by
              intro x
              cases iter <;> first | rfl | (simp [isSet] at hset)
            refine ev_lcE hfin (own := ownOf G.N scope.names) (T := q.2) (O.calm hcalm) O.nd (I.i _ _ _ hit) B (fun s H C cl fp => ?_) (fun s H C cl fp => ?_) (fun s H C cl fp => ?_) fold fun i hi => ?_
            · exact cG_ok n (O.blk B s H C cl fp) hq
            · have IB := ih (O.blk B s H C cl fp)
              split at htt
              · cases htt; exact ⟨fun pins s σ H Q I ⟨μ, ρ, st, re, S, h⟩ => pts_nil.run pins s σ H Q I (h.here S rfl)⟩
              · exact pts_one (IB.t _ _ htt)
              · cases htt
            · exact (ih (O.blk B s H C cl fp)).e _ _ hte
            · have := List.all_eq_true.mp hT i hi
              simpa [ownIx] using this
          · cases h
        · cases h
      · cases h
    · unfold cQ at h
      have fold : ∀ {it : Expr} (env : PySem.Env), isSet it = false → ∀ x, foldedSetIterable it env x = pure x := fun {it} env hset x => by cases it <;> first | rfl | (simp [isSet] at hset)
      split at h
      · split at h
        · rename_i elt tg iter ifs as scope pos hc
          obtain ⟨ha, hcalm, hset, hblk⟩ := hc
          subst ha
          obtain ⟨it, hit, h⟩ := some_bind h
          obtain ⟨q, hq, h⟩ := some_bind h
          split at h
          · rename_i hT
            obtain ⟨tt, htt, h⟩ := some_bind h
            obtain ⟨te, hte, h⟩ := some_bind h
            obtain ⟨ix, hix, h⟩ := some_bind h
            cases h
            rw [frcL_ok hix]
            have B := O.blkOk hblk
            refine ⟨elt, tg, iter, ifs, [], scope, pos, ownOf G.N scope.names, _, gG X q.1 q.2, gT X W0 tt, (fun D env => do let v ← eval elt env; standAt elt.pos; let _ ← call (.builtin "set.add") [.ref D, v]), (fun D => tAdd X.w D (gE X W0 te)), rfl, O.calm hcalm, I.i _ _ _ hit, B, fun s H C cl fp => cG_ok n (O.blk B s H C cl fp) hq, fun s H C cl fp => ?_, fold _ hset, fun D it env => rfl,
              fun D s H C cl fp => pin_add (X := X.blk s H scope (compEnvC scope cl C X.env) fp) (D := D) rfl ((ih (O.blk B s H C cl fp)).e _ _ hte), fun σ H Q hq' => ev_sc O.so (fun μ1 H1 D e0 => sin_add e0) (fun i hi => ?_) hq'⟩
            · have IB := ih (O.blk B s H C cl fp)
              split at htt
              · cases htt; exact ⟨fun pins s σ H Q I ⟨μ, ρ, st, re, S, h⟩ => pts_nil.run pins s σ H Q I (h.here S rfl)⟩
              · exact pts_one (IB.t _ _ htt)
              · cases htt
            · have := List.all_eq_true.mp hT i hi
              simpa [ownIx] using this
          · cases h
        · cases h
      · split at h
        · rename_i elt tg iter ifs as tg1 iter1 ifs1 as1 scope pos hc
          obtain ⟨ha, hcalm, hset, hblk, hb, hset1⟩ := hc
          subst ha hb
          obtain ⟨it, hit, h⟩ := some_bind h
          obtain ⟨q, hq, h⟩ := some_bind h
          split at h
          · rename_i hT
            obtain ⟨tt, htt, h⟩ := some_bind h
            obtain ⟨te, hte, h⟩ := some_bind h
            obtain ⟨ix, hix, h⟩ := some_bind h
            obtain ⟨it1, hit1, h⟩ := some_bind h
            obtain ⟨q1, hq1, h⟩ := some_bind h
            split at h
            · rename_i hT1
              obtain ⟨tt1, htt1, h⟩ := some_bind h
              cases h
              rw [frcL_ok hix]
              have B := O.blkOk hblk
              have v1 : ∀ i ∈ q1.2, i ∈ (ownOf G.N scope.names).map (·.2) := fun i hi => by
                have := List.all_eq_true.mp hT1 i hi
                simpa [ownIx] using this
              refine ⟨elt, tg, iter, ifs, [⟨tg1, iter1, ifs1, 0⟩], scope, pos, ownOf G.N scope.names, _, gG X q.1 q.2, gT X W0 tt, (innerCl (.SetComp elt [⟨tg, iter, ifs, 0⟩, ⟨tg1, iter1, ifs1, 0⟩] scope pos) iter1),
                (fun D σ H Nx => gI X W0 it1 σ H fun J H1 => tCl J (gG X q1.1 q1.2) (gT X W0 tt1) (tAdd X.w D (gE X W0 te)) q1.2 σ H1 Nx), rfl, O.calm hcalm, I.i _ _ _ hit, B, fun s H C cl fp => cG_ok n (O.blk B s H C cl fp) hq, fun s H C cl fp => ?_, fold _ hset, setTurn2,
                fun D s H C cl fp => pin_clause (X := X.blk s H scope (compEnvC scope cl C X.env) fp) (vs1 := q1.2) (O.calm hcalm) rfl rfl (fun it => rfl) (fold (compEnvC scope cl C X.env) hset1) ((ih (O.blk B s H C cl fp)).i _ _ _ hit1) (cG_ok n (O.blk B s H C cl fp) hq1) ?_ (pin_add (X := X.blk s H scope (compEnvC scope cl C X.env) fp) (D := D) rfl ((ih (O.blk B s H C cl fp)).e _ _ hte)) v1,
                fun σ H Q hq' => ev_sc O.so (fun μ1 H1 D e0 => sin_cl (sin_add e0) fun i hi => hi) (fun i hi => ?_) hq'⟩
              · have IB := ih (O.blk B s H C cl fp)
                split at htt
                · cases htt; exact ⟨fun pins s σ H Q I ⟨μ, ρ, st, re, S, h⟩ => pts_nil.run pins s σ H Q I (h.here S rfl)⟩
                · exact pts_one (IB.t _ _ htt)
                · cases htt
              · have IB := ih (O.blk B s H C cl fp)
                split at htt1
                · cases htt1; exact ⟨fun pins s σ H Q I ⟨μ, ρ, st, re, S, h⟩ => pts_nil.run pins s σ H Q I (h.here S rfl)⟩
                · exact pts_one (IB.t _ _ htt1)
                · cases htt1
              · have := List.all_eq_true.mp hT i hi
                simpa [ownIx] using this
            · cases h
          · cases h
        · cases h
      · cases h
    · simp only [cC] at h
      split at h
      · split at h
        · rename_i hs; obtain ⟨f, hf, h⟩ := some_bind h; cases h; exact ev_lstC (I.a _ _ hs hf)
        · cases h
      · split at h
        · rename_i hc
          obtain ⟨ho, hk, hn⟩ := hc
          simp only [Bool.and_eq_true] at ho
          obtain ⟨h1, h2, h3⟩ := okName_parts ho.1
          split at h
          · rename_i e
            obtain ⟨rfl, _, hca⟩ := e
            obtain ⟨f, hf, h⟩ := some_bind h; cases h
            exact ev_callTy (ok_listK (O.calm hca)) (O.gl _ hk) (O.blt _ (Option.isNone_iff_eq_none.mp hn) (by decide +kernel)) (by decide +kernel) (I.a _ _ ho.2 hf) ho.2 h3 h1
          split at h
          · rename_i e
            subst e
            obtain ⟨f, hf, h⟩ := some_bind h; cases h
            exact ev_callTy ok_listC (O.gl _ hk) (O.blt _ (Option.isNone_iff_eq_none.mp hn) (by decide +kernel)) (by decide +kernel) (I.a _ _ ho.2 hf) ho.2 h3 h1
          · split at h
            · rename_i e
              subst e
              obtain ⟨f, hf, h⟩ := some_bind h; cases h
              exact ev_callB (ok_sortedC O.units) (O.gl _ hk) (O.blt _ (Option.isNone_iff_eq_none.mp hn) (by decide +kernel)) (by decide +kernel) (I.a _ _ ho.2 hf) ho.2 h3 h1
            split at h
            · rename_i e
              obtain ⟨rfl, hca⟩ := e
              obtain ⟨f, hf, h⟩ := some_bind h; cases h
              exact ev_callTy (ok_dictC (O.calm hca)) (O.gl _ hk) (O.blt _ (Option.isNone_iff_eq_none.mp hn) (by decide +kernel)) (by decide +kernel) (I.a _ _ ho.2 hf) ho.2 h3 h1
            · cases h
        · cases h
      · exact I.l _ fin_cell _ _ h
      · cases h; exact ev_d0C
      · obtain ⟨f, hf, h⟩ := some_bind h; obtain ⟨g, hg, h⟩ := some_bind h; cases h
        exact ev_dispK O.units (I.e _ _ hf) (I.e _ _ hg)
      · split at h
        · rename_i h15
          obtain ⟨l, hl, h⟩ := some_bind h; cases h
          obtain ⟨p1, p2, p3, p4⟩ := I.p _ _ _ _ hl
          exact ev_disp find_cell p1 p2 p3 (by simp) h15 p4
        · cases h
      · cases h
    · simp only [cP] at h
      split at h
      · cases h; exact ⟨pps_nil, rfl, rfl, rfl⟩
      · obtain ⟨f, hf, h⟩ := some_bind h; obtain ⟨g, hg, h⟩ := some_bind h; obtain ⟨l, hl, h⟩ := some_bind h; cases h
        obtain ⟨p1, p2, p3, p4⟩ := I.p _ _ _ _ hl
        exact ⟨pps_cons (I.e _ _ hf) (I.e _ _ hg) p1, by simpa using p2, by simp [p3], by simp [p4]⟩
      · cases h
end
end Iv
set_option Elab.async false
set_option linter.all false
set_option maxRecDepth 100000
set_option maxHeartbeats 8000000
/-! Iv11: statements. -/
namespace Iv
open PySem PySem.Spec PyProof.Rows L2
/-- what a statement comes to -/
inductive SR where
  | nx (ρ : Env) (st : Sto)
  | rt (v : Vl) (st : Sto)
  | bk (ρ : Env) (st : Sto)
  | ct (ρ : Env) (st : Sto)
  | ex (e : Exn) (ρ : Env) (st : Sto)
  | bad
abbrev S := Env → Sto → SR
def bindS {α : Type} (m : Env → M α) (k : α → S) : S := fun ρ st => match m ρ st with
  | .ok a st' => k a ρ st'
  | .ex e st' => .ex e ρ st'
  | .bad => .bad
def nextS : S := fun ρ st => .nx ρ st
def badS : S := fun _ _ => .bad
def seqS (a b : S) : S := fun ρ st => match a ρ st with
  | .nx ρ' st' => b ρ' st'
  | r => r
def ifS (c : Env → M Bool) (a b : S) : S := bindS c fun k => if k = true then a else b
def setS (i : Nat) (f : Env → M Vl) : S := bindS f fun v ρ st => .nx (ρ.set i (some v)) st
def retS (f : Env → M Vl) : S := bindS f fun v _ st => .rt v st
def retN : S := fun _ st => .rt (.d .none) st
def dropS (f : Env → M Vl) : S := bindS f fun _ => nextS
def forL (nx : Nat → Sto → Option (Option PyData)) (asg : Asg) (body : S) : Nat → Nat → S
  | 0, _ => badS
  | m + 1, i => fun ρ st => match nx i st with
    | none => .bad
    | some none => .nx ρ st
    | some (some d) => match asg d ρ with
      | none => .bad
      | some ρ2 => match body ρ2 st with
        | .nx ρ3 st3 => forL nx asg body m (i + 1) ρ3 st3
        | .ct ρ3 st3 => forL nx asg body m (i + 1) ρ3 st3
        | .bk ρ3 st3 => .nx ρ3 st3
        | r => r
def forS (it : Env → M Wk) (asg : Asg) (body : S) : S := bindS it fun w => forL w.nx asg body (w.n + 1) 0
def whileL (c : Env → M Bool) (body : S) : Nat → S
  | 0 => badS
  | m + 1 => bindS c fun k => if k = true then (fun ρ st => match body ρ st with
      | .nx ρ3 st3 => whileL c body m ρ3 st3
      | .ct ρ3 st3 => whileL c body m ρ3 st3
      | .bk ρ3 st3 => .nx ρ3 st3
      | r => r) else nextS
def whileS (c : Env → M Bool) (body : S) : S := whileL c body 1000000000000

section
variable {X : Cx} {W : WX}
def SPost (X : Cx) (W : WX) (μ : Mp) (H : Hp) (D : Ends) : SR → Prop
  | .nx ρ st => ∀ (σ' : L2.St) (H' : Hp) (μ' : Mp), Grow μ H μ' H' → RSt X.K μ' H' st → RE X.K X.mg μ' H' σ' ρ → D.nx σ' H'
  | .bk ρ st => ∀ (σ' : L2.St) (H' : Hp) (μ' : Mp), Grow μ H μ' H' → RSt X.K μ' H' st → RE X.K X.mg μ' H' σ' ρ → D.bk σ' H'
  | .ct ρ st => ∀ (σ' : L2.St) (H' : Hp) (μ' : Mp), Grow μ H μ' H' → RSt X.K μ' H' st → RE X.K X.mg μ' H' σ' ρ → D.ct σ' H'
  | .rt v st => ∀ (x : V) (H' : Hp) (μ' : Mp), Grow μ H μ' H' → RSt X.K μ' H' st → RV X.K X.mg μ' H' x v → D.rt x H'
  | .ex e ρ st => ∀ (cls : Value) (d : Option Addr) (σ' : L2.St) (H' : Hp) (μ' : Mp), Grow μ H μ' H' → RSt X.K μ' H' st → RE X.K X.mg μ' H' σ' ρ → RX X.K X.mg μ' H' e cls d → W cls d σ' H'
  | .bad => False
def gS (X : Cx) (W : WX) (m : S) : TS := fun D σ H => ∃ (μ : Mp) (ρ : Env) (st : Sto), RE X.K X.mg μ H σ ρ ∧ RSt X.K μ H st ∧ SPost X W μ H D (m ρ st)
theorem SPost.from_ {μ μ1 : Mp} {H H1 : Hp} {D : Ends} {r : SR} (g : Grow μ H μ1 H1) (h : SPost X W μ H D r) : SPost X W μ1 H1 D r := by
  cases r with
  | nx ρ st => exact fun σ' H' μ' g' S re => h σ' H' μ' (g.trans g') S re
  | bk ρ st => exact fun σ' H' μ' g' S re => h σ' H' μ' (g.trans g') S re
  | ct ρ st => exact fun σ' H' μ' g' S re => h σ' H' μ' (g.trans g') S re
  | rt v st => exact fun x H' μ' g' S re => h x H' μ' (g.trans g') S re
  | ex e ρ st => exact fun c d σ' H' μ' g' S re rx => h c d σ' H' μ' (g.trans g') S re rx
  | bad => exact h
/-- an expression ahead of the rest -/
theorem SPost.bind {α β : Type} {R : Rl β α} {μ : Mp} {H : Hp} {D : Ends} {σ : L2.St} {ρ : Env} {st : Sto} {m : Env → M α} {k : α → S} (re : RE X.K X.mg μ H σ ρ) (h : SPost X W μ H D (bindS m k ρ st)) :
    Post X.K X.mg R μ H (fun v H1 => ∃ a st1 μ1, Grow μ H μ1 H1 ∧ RSt X.K μ1 H1 st1 ∧ R μ1 H1 v a ∧ SPost X W μ1 H1 D (k a ρ st1)) (fun cls d H' => W cls d σ H') (m ρ st) := by
  unfold bindS at h
  cases e : m ρ st with
  | ok a st' =>
    rw [e] at h
    exact fun v H' μ' g' S w => ⟨a, st', μ', g', S, w, h.from_ g'⟩
  | ex x st' =>
    rw [e] at h
    exact fun c d H' μ' g' S w => h c d σ H' μ' g' S (re.step g') w
  | bad => rw [e] at h; exact h
theorem gE.thenS {D : Ends} {σ : L2.St} {H : Hp} {μ : Mp} {ρ : Env} {st : Sto} {m : Env → M Vl} {k : Vl → S} {Q1 : VK} (re : RE X.K X.mg μ H σ ρ) (S : RSt X.K μ H st) (h : SPost X W μ H D (bindS m k ρ st))
    (q : ∀ v H1 a st1 μ1, RE X.K X.mg μ1 H1 σ ρ → RSt X.K μ1 H1 st1 → RV X.K X.mg μ1 H1 v a → Grow μ H μ1 H1 → SPost X W μ1 H1 D (k a ρ st1) → Q1 v H1) : gE X W m σ H Q1 :=
  ⟨μ, ρ, st, re, S, (h.bind re).mono fun v H1 _ _ _ _ _ _ _ ⟨a, st1, μ1, g, S1, w, p⟩ => q v H1 a st1 μ1 (re.step g) S1 w g p⟩
theorem gT.thenS {D : Ends} {σ : L2.St} {H : Hp} {μ : Mp} {ρ : Env} {st : Sto} {m : Env → M Bool} {k : Bool → S} {Q1 : Bool → Hp → Prop} (re : RE X.K X.mg μ H σ ρ) (S : RSt X.K μ H st) (h : SPost X W μ H D (bindS m k ρ st))
    (q : ∀ a H1 st1 μ1, RE X.K X.mg μ1 H1 σ ρ → RSt X.K μ1 H1 st1 → Grow μ H μ1 H1 → SPost X W μ1 H1 D (k a ρ st1) → Q1 a H1) : gT X W m σ H Q1 :=
  ⟨μ, ρ, st, re, S, (h.bind (R := RBo) re).mono fun v H1 _ _ _ _ _ _ _ ⟨a, st1, μ1, g, S1, w, p⟩ => by cases w; exact q v H1 st1 μ1 (re.step g) S1 g p⟩
theorem SPost.nx_ {μ : Mp} {H : Hp} {D : Ends} {σ : L2.St} {ρ : Env} {st : Sto} (h : SPost X W μ H D (.nx ρ st)) (re : RE X.K X.mg μ H σ ρ) (S : RSt X.K μ H st) : D.nx σ H := h σ H μ (Grow.refl _ _) S re

theorem es_nil : PSs X [] (gS X W nextS) := pss_nil.weak fun D σ H ⟨μ, ρ, st, re, S, h⟩ => h.nx_ re S
theorem es_cons {s : Stmt} {rest : List Stmt} {a b : S} (h1 : PS X s (gS X W a)) (h2 : PSs X rest (gS X W b)) : PSs X (s :: rest) (gS X W (seqS a b)) :=
  (pss_cons h1 h2).weak fun D σ H ⟨μ, ρ, st, re, S, h⟩ => by
    refine ⟨μ, ρ, st, re, S, ?_⟩
    unfold seqS at h
    cases e : a ρ st with
    | nx ρ' st' => rw [e] at h; exact fun σ' H' μ' g S' re' => ⟨μ', ρ', st', re', S', h.from_ g⟩
    | bk ρ' st' => rw [e] at h; exact h
    | ct ρ' st' => rw [e] at h; exact h
    | rt v st' => rw [e] at h; exact h
    | ex x ρ' st' => rw [e] at h; exact h
    | bad => rw [e] at h; exact h
theorem es_pass {pos : Pos} : PS X (.Pass pos) (gS X W nextS) := ps_pass.weak fun D σ H ⟨μ, ρ, st, re, S, h⟩ => h.nx_ re S
theorem es_break {pos : Pos} : PS X (.Break pos) (gS X W fun ρ st => .bk ρ st) := ps_break.weak fun D σ H ⟨μ, ρ, st, re, S, h⟩ => h σ H μ (Grow.refl _ _) S re
theorem es_continue {pos : Pos} : PS X (.Continue pos) (gS X W fun ρ st => .ct ρ st) := ps_continue.weak fun D σ H ⟨μ, ρ, st, re, S, h⟩ => h σ H μ (Grow.refl _ _) S re
theorem es_if {c : Expr} {a b : List Stmt} {k : Env → M Bool} {f g : S} {pos : Pos} (hc : PT X c (gT X W k)) (ha : PSs X a (gS X W f)) (hb : PSs X b (gS X W g)) : PS X (.If c a b pos) (gS X W (ifS k f g)) :=
  (ps_if hc ha hb).weak fun D σ H ⟨μ, ρ, st, re, S, h⟩ => gT.thenS re S h fun k H1 st1 μ1 re1 S1 g1 h1 => by
    split
    · rename_i hk; rw [if_pos hk] at h1; exact ⟨μ1, ρ, st1, re1, S1, h1⟩
    · rename_i hk; rw [if_neg hk] at h1; exact ⟨μ1, ρ, st1, re1, S1, h1⟩
theorem es_ret {e : Expr} {f : Env → M Vl} {pos : Pos} (he : PE X e (gE X W f)) : PS X (.Return (some e) pos) (gS X W (retS f)) :=
  (ps_ret he).weak fun D σ H ⟨μ, ρ, st, re, S, h⟩ => gE.thenS re S h fun v H1 a st1 μ1 re1 S1 ra g1 h1 => h1 v H1 μ1 (Grow.refl _ _) S1 ra
theorem es_retN {pos : Pos} : PS X (.Return none pos) (gS X W retN) :=
  ps_retN.weak fun D σ H ⟨μ, ρ, st, re, S, h⟩ => h .non H μ (Grow.refl _ _) S (.d .non)
theorem es_expr {e : Expr} {f : Env → M Vl} {pos : Pos} (he : PE X e (gE X W f)) (hs : swapsWith e none pos.line X.env = pure false) : PS X (.Expr e pos) (gS X W (dropS f)) :=
  (ps_expr he hs).weak fun D σ H ⟨μ, ρ, st, re, S, h⟩ => gE.thenS re S h fun v H1 a st1 μ1 re1 S1 ra g1 h1 => h1.nx_ re1 S1
theorem set_of {f : Env → M Vl} {i : Nat} {D : Ends} {σ : L2.St} {H : Hp} (h : gS X W (setS i f) D σ H) : tAsg (gE X W f) (gName i) D σ H := by
  obtain ⟨μ, ρ, st, re, S, h⟩ := h
  exact gE.thenS re S h fun v H1 a st1 μ1 re1 S1 ra g1 h1 => h1.nx_ (re1.set ra i) S1
theorem es_set {e : Expr} {f : Env → M Vl} {i : Nat} {x : Str} {pos pos' : Pos} (hN : X.N.Nodup) (hi : X.N[i]? = some x) (hx : Loc X.env.scope x) (hf : X.fn x = true ∨ X.env.scope.names.lookup x = some .local) (he : PE X e (gE X W f)) (hs : swapsWith e (some (.Name x pos')) pos.line X.env = pure false) :
    PS X (.Assign [.Name x pos'] e pos) (gS X W (setS i f)) :=
  (ps_set hN hi hx he hs hf).weak fun D σ H h => set_of h
/-- a, b = e -/
def asgS (m : Asg) (f : Env → M Vl) : S := bindS f fun v ρ st => match v with
  | .d d => match m d ρ with
    | some ρ' => .nx ρ' st
    | none => .bad
  | _ => .bad
theorem es_asg {tg e : Expr} {f : Env → M Vl} {m : Asg} {T : List Nat} {pos : Pos} (he : PE X e (gE X W f)) (hg : PG X tg (gG X m T)) (hs : swapsWithSole [tg] e pos.line X.env = pure false) (hw : swappedStores [tg] e X.env = pure none) (h1 : (assignEach [tg] X.env).map (·.2) = [assign tg X.env]) :
    PS X (.Assign [tg] e pos) (gS X W (asgS m f)) :=
  (ps_asg he hg hs hw h1).weak fun D σ H ⟨μ, ρ, st, re, S, h⟩ => gE.thenS re S h fun v H1 a st1 μ1 re1 S1 ra g1 h1 => by
    split at h1
    · rename_i d
      split at h1
      · rename_i ρ' e
        cases ra with | d ra => exact ⟨μ1, ρ, d, ρ', re1, ra, e, fun σ' re' _ _ => h1.nx_ re' S1⟩
      · exact h1.elim
    · exact h1.elim
theorem es_asgX {tg e : Expr} {f : Env → M Vl} {m : Asg} {pos : Pos} (he : PE X e (gE X W f)) (hg : PG X tg (gX X m)) (hs : swapsWithSole [tg] e pos.line X.env = pure false) (hw : swappedStores [tg] e X.env = pure none) (h1 : (assignEach [tg] X.env).map (·.2) = [assign tg X.env]) :
    PS X (.Assign [tg] e pos) (gS X W (asgS m f)) :=
  (ps_asg he hg hs hw h1).weak fun D σ H ⟨μ, ρ, st, re, S, h⟩ => gE.thenS re S h fun v H1 a st1 μ1 re1 S1 ra g1 h1 => by
    split at h1
    · rename_i d
      split at h1
      · rename_i ρ' e
        cases ra with | d ra => exact ⟨μ1, ρ, st1, d, ρ', re1, S1, ra, e, fun σ' H' μ' g' S' re' => (h1.from_ g').nx_ re' S'⟩
      · exact h1.elim
    · exact h1.elim
/-- a, b = x, y -/
def parS (is : List Nat) (f : Env → M (List Vl)) : S := bindS f fun vs ρ st => if vs.length = is.length then .nx ((is.zip vs).foldl (fun ρ p => ρ.set p.1 (some p.2)) ρ) st else .bad
theorem gA.thenS {D : Ends} {σ : L2.St} {H : Hp} {μ : Mp} {ρ : Env} {st : Sto} {m : Env → M (List Vl)} {k : List Vl → S} {Q1 : List V → Hp → Prop} (re : RE X.K X.mg μ H σ ρ) (S : RSt X.K μ H st) (h : SPost X W μ H D (bindS m k ρ st))
    (q : ∀ v H1 a st1 μ1, RE X.K X.mg μ1 H1 σ ρ → RSt X.K μ1 H1 st1 → RVs X.K X.mg μ1 H1 v a → Grow μ H μ1 H1 → SPost X W μ1 H1 D (k a ρ st1) → Q1 v H1) : gA X W m σ H Q1 :=
  ⟨μ, ρ, st, re, S, (h.bind re).mono fun v H1 _ _ _ _ _ _ _ ⟨a, st1, μ1, g, S1, w, p⟩ => q v H1 a st1 μ1 (re.step g) S1 w g p⟩
theorem par2_of {f : Env → M (List Vl)} {i j : Nat} {D : Ends} {σ : L2.St} {H : Hp} (h : gS X W (parS [i, j] f) D σ H) : tPar i j (gA X W f) D σ H := by
  obtain ⟨μ, ρ, st, re, S, h⟩ := h
  refine gA.thenS re S h fun v H1 a st1 μ1 re1 S1 ra g1 h1 => ?_
  split at h1
  · rename_i hl
    match a, hl, ra with
    | [a1, a2], _, .cons r1 (.cons r2 .nil) => exact ⟨_, _, rfl, h1.nx_ ((re1.set r1 i).set r2 j) S1⟩
  · exact h1.elim
theorem par3_of {f : Env → M (List Vl)} {i j l : Nat} {D : Ends} {σ : L2.St} {H : Hp} (h : gS X W (parS [i, j, l] f) D σ H) : tPar3 i j l (gA X W f) D σ H := by
  obtain ⟨μ, ρ, st, re, S, h⟩ := h
  refine gA.thenS re S h fun v H1 a st1 μ1 re1 S1 ra g1 h1 => ?_
  split at h1
  · rename_i hl
    match a, hl, ra with
    | [a1, a2, a3], _, .cons r1 (.cons r2 (.cons r3 .nil)) => exact ⟨_, _, _, rfl, h1.nx_ (((re1.set r1 i).set r2 j).set r3 l) S1⟩
  · exact h1.elim

/-! ### loops -/
theorem es_for {tg iter : Expr} {body : List Stmt} {it : Env → M Wk} {asg : Asg} {T : List Nat} {b : S} {pos : Pos} (hp : PassesOwn (model X.prog X.w) X.A X.env X.xe) (hc : X.calm = true) (hi : PI X tg iter (gI X W it)) (hg : PG X tg (gG X asg T)) (hb : PSs X body (gS X W b))
    (hs : ∀ x, foldedSetIterable iter X.env x = pure x) : PS X (.For tg iter body [] pos) (gS X W (forS it asg b)) :=
  (ps_for hp hc hi hg hb hs).weak fun D σ H ⟨μ, ρ, st, re, S, h⟩ => by
    refine ⟨μ, ρ, st, re, S, (h.bind re).mono fun J H1 _ _ _ _ _ _ _ ⟨w, st1, μ1, g, S1, rj, p⟩ => ?_⟩
    replace rj : RJ X w J μ1 H1 := rj
    refine ⟨fun i m σ Hh => ∃ μ ρ st, Grow μ1 H1 μ Hh ∧ RSt X.K μ Hh st ∧ RE X.K X.mg μ Hh σ ρ ∧ SPost X W μ Hh D (forL w.nx asg b m i ρ st), ⟨w.n + 1, μ1, ρ, st1, Grow.refl _ _, S1, re.step g, p⟩, ?_⟩
    rintro i m σ2 Hh ⟨μ2, ρ2, st2, g2, S2, re2, P⟩
    cases m with
    | zero => exact P.elim
    | succ m =>
      have J1 := rj μ2 Hh st2 g2.kp S2 i
      simp only [forL] at P
      cases e : w.nx i st2 with
      | none => rw [e] at P; exact P.elim
      | some o =>
        cases o with
        | none => rw [e] at P; exact .inl ⟨J1.1 e, P.nx_ re2 S2⟩
        | some d =>
          rw [e] at P
          obtain ⟨j1, j2⟩ := J1.2 d e
          refine .inr ⟨j1, fun σ' H' => ∃ m', m' < m + 1 ∧ ∃ μ ρ st, Grow μ1 H1 μ H' ∧ RSt X.K μ H' st ∧ RE X.K X.mg μ H' σ' ρ ∧ SPost X W μ H' D (forL w.nx asg b m' (i + 1) ρ st), fun σ' H' h => h, fun x H2 hy => ?_⟩
          obtain ⟨μ3, g3, S3, r3⟩ := j2 x H2 hy
          simp only at P
          cases e2 : asg d ρ2 with
          | none => rw [e2] at P; exact P.elim
          | some ρ3 =>
            rw [e2] at P
            simp only at P
            refine ⟨μ3, ρ2, d, ρ3, re2.step g3, r3, e2, fun σ3 re3 _ _ => ⟨μ3, ρ3, st2, re3, S3, ?_⟩⟩
            have P3 := P.from_ g3
            cases e3 : b ρ3 st2 with
            | nx ρ4 st4 => rw [e3] at P3; exact fun σ' H' μ' g' S' re' => ⟨m, Nat.lt_succ_self m, μ', ρ4, st4, g2.trans (g3.trans g'), S', re', P3.from_ g'⟩
            | ct ρ4 st4 => rw [e3] at P3; exact fun σ' H' μ' g' S' re' => ⟨m, Nat.lt_succ_self m, μ', ρ4, st4, g2.trans (g3.trans g'), S', re', P3.from_ g'⟩
            | bk ρ4 st4 => rw [e3] at P3; exact P3
            | rt v st4 => rw [e3] at P3; exact P3
            | ex x' ρ4 st4 => rw [e3] at P3; exact P3
            | bad => rw [e3] at P3; exact P3
theorem es_while {c : Expr} {body : List Stmt} {k : Env → M Bool} {b : S} {pos : Pos} (hp : PassesOwn (model X.prog X.w) X.A X.env X.xe) (hc : PT X c (gT X W k)) (hb : PSs X body (gS X W b)) : PS X (.While c body [] pos) (gS X W (whileS k b)) :=
  (ps_while hp hc hb).weak fun D σ H ⟨μ, ρ, st, re, S, h⟩ => by
    refine ⟨fun m σ Hh => ∃ μ ρ st, RSt X.K μ Hh st ∧ RE X.K X.mg μ Hh σ ρ ∧ SPost X W μ Hh D (whileL k b m ρ st), ⟨1000000000000, μ, ρ, st, S, re, h⟩, ?_⟩
    rintro m σ2 Hh ⟨μ2, ρ2, st2, S2, re2, P⟩
    cases m with
    | zero => exact P.elim
    | succ m =>
      unfold whileL at P
      refine gT.thenS re2 S2 P fun kk H1 st1 μ1 re1 S1 g1 h1 => ?_
      split
      · rename_i hk
        rw [if_pos hk] at h1
        refine ⟨fun σ' H' => ∃ m', m' < m + 1 ∧ ∃ μ ρ st, RSt X.K μ H' st ∧ RE X.K X.mg μ H' σ' ρ ∧ SPost X W μ H' D (whileL k b m' ρ st), fun σ' H' h => h, μ1, ρ2, st1, re1, S1, ?_⟩
        cases e3 : b ρ2 st1 with
        | nx ρ4 st4 => rw [e3] at h1; exact fun σ' H' μ' g' S' re' => ⟨m, Nat.lt_succ_self m, μ', ρ4, st4, S', re', h1.from_ g'⟩
        | ct ρ4 st4 => rw [e3] at h1; exact fun σ' H' μ' g' S' re' => ⟨m, Nat.lt_succ_self m, μ', ρ4, st4, S', re', h1.from_ g'⟩
        | bk ρ4 st4 => rw [e3] at h1; exact h1
        | rt v st4 => rw [e3] at h1; exact h1
        | ex x' ρ4 st4 => rw [e3] at h1; exact h1
        | bad => rw [e3] at h1; exact h1
      · rename_i hk
        rw [if_neg hk] at h1
        exact h1.nx_ re1 S1
end
end Iv
set_option Elab.async false
set_option linter.all false
set_option maxRecDepth 100000
set_option maxHeartbeats 8000000
/-! Iv12: cells written. -/
namespace Iv
open PySem PySem.Spec PyProof.Rows L2
section
variable {X : Cx} {W : WX}
/-! ### o[i] = v -/
def stM (o i : Vl) (x : PyData) : M Unit := fun st => match o, i with
  | .ref n, .d (.int k) => match st[n]? with
    | some (.lst xs) => match ixN xs.length k with
      | some j => .ok () (st.set n (.lst (xs.set j x)))
      | none => .bad
    | _ => .bad
  | _, _ => .bad
def subS (f o i : Env → M Vl) : S := bindS f fun v => bindS (fun _ => frzM v) fun x => bindS o fun ov => bindS i fun iv => bindS (fun _ => stM ov iv x) fun _ => nextS
/-- a step that asks nothing of the machine -/
theorem SPost.frz {μ : Mp} {H : Hp} {D : Ends} {ρ : Env} {st : Sto} {v : V} {a : Vl} {k : PyData → S} (h : SPost X W μ H D (bindS (fun _ => frzM a) k ρ st)) (S : RSt X.K μ H st) (r : RV X.K X.mg μ H v a) :
    ∃ x st1 μ1, Grow μ H μ1 H ∧ RSt X.K μ1 H st1 ∧ RP X.K μ1 H v x ∧ SPost X W μ1 H D (k x ρ st1) := by
  simp only [bindS, frzM] at h
  cases e : frz1 st a with
  | none => rw [e] at h; exact h.elim
  | some q =>
    obtain ⟨x, st1⟩ := q
    rw [e] at h
    obtain ⟨μ1, g, S1, r1⟩ := frz1_ok S r e
    exact ⟨x, st1, μ1, g, S1, r1, SPost.from_ g h⟩
theorem es_sub {o i e : Expr} {f g k : Env → M Vl} {pos p2 : Pos} (he : PE X e (gE X W f)) (ho : PE X o (gE X W g)) (hi : PE X i (gE X W k)) (hs : swapsWithSole [.Subscript o i p2] e pos.line X.env = pure false) (hw : swappedStores [.Subscript o i p2] e X.env = pure none)
    (hsl : ∀ lo hi p, i ≠ .Slice lo hi none p) : PS X (.Assign [.Subscript o i p2] e pos) (gS X W (subS f g k)) := by
  refine (ps_asg he (pg_sub ho hi set_list (by
    intro v
    clear hi
    cases i with
    | Slice lo hj st p =>
      cases st with
      | none => exact (hsl lo hj p rfl).elim
      | some s => rfl
    | _ => rfl)) hs hw rfl).weak fun D σ H ⟨μ, ρ, st, re, S, h⟩ => ?_
  refine gE.thenS re S h fun v H1 a st1 μ1 re1 S1 ra g1 h1 => ?_
  obtain ⟨x, st2, μ2, g2, S2, rx, h2⟩ := h1.frz S1 ra
  have re2 := re1.step g2
  refine gE.thenS re2 S2 h2 fun ov H3 oa st3 μ3 re3 S3 ro g3 h3 => gE.thenS re3 S3 h3 fun iv H4 ia st4 μ4 re4 S4 ri g4 h4 => ?_
  simp only [bindS, stM] at h4
  split at h4
  · rename_i u st5 heq
    split at heq
    · rename_i n kk
      split at heq
      · rename_i xs hx
        split at heq
        · rename_i j hj
          cases heq
          obtain ⟨p, vs, rfl, hm, hp, r1⟩ := cell_get S4 (ro.step g4) hx
          cases ri with
          | d ri =>
            cases ri
            have rx4 := (rx.step g3).step g4
            obtain ⟨g5, S5⟩ := cell_set (X := X) (xs := xs) S4 hm (r1.set rx4 j)
            refine ⟨p, vs, kk, j, rfl, rfl, hp, by rw [r1.length]; exact hj, ?_⟩
            exact h4 σ _ μ4 g5 S5 (re4.step g5)
        · cases heq
      · cases heq
    · cases heq
  · rename_i heq
    split at heq
    · split at heq
      · split at heq <;> cases heq
      · cases heq
    · cases heq
  · exact h4.elim
/-! ### d[k] = v -/
def stK (o i : Vl) (x : PyData) : M Unit := fun st => match o, i with
  | .ref n, .d d => match st[n]? with
    | some (.dtk kvs) => if (ckey d).isSome = true ∧ kvs.length < sizeLine then .ok () (st.set n (.dtk (putT kvs d x))) else .bad
    | _ => .bad
  | _, _ => .bad
def subK (f o i : Env → M Vl) : S := bindS f fun v => bindS (fun _ => frzM v) fun x => bindS o fun ov => bindS i fun iv => bindS (fun _ => stK ov iv x) fun _ => nextS
theorem es_subK (hu : X.A.units + 66 < cLine) {o i e : Expr} {f g k : Env → M Vl} {pos p2 : Pos} (he : PE X e (gE X W f)) (ho : PE X o (gE X W g)) (hi : PE X i (gE X W k)) (hs : swapsWithSole [.Subscript o i p2] e pos.line X.env = pure false) (hw : swappedStores [.Subscript o i p2] e X.env = pure none)
    (hsl : ∀ lo hi p, i ≠ .Slice lo hi none p) : PS X (.Assign [.Subscript o i p2] e pos) (gS X W (subK f g k)) := by
  refine (ps_asg he (pg_sub ho hi (set_dtk hu) (by
    intro v
    clear hi
    cases i with
    | Slice lo hj st p =>
      cases st with
      | none => exact (hsl lo hj p rfl).elim
      | some s => rfl
    | _ => rfl)) hs hw rfl).weak fun D σ H ⟨μ, ρ, st, re, S, h⟩ => ?_
  refine gE.thenS re S h fun v H1 a st1 μ1 re1 S1 ra g1 h1 => ?_
  obtain ⟨x, st2, μ2, g2, S2, rx, h2⟩ := h1.frz S1 ra
  have re2 := re1.step g2
  refine gE.thenS re2 S2 h2 fun ov H3 oa st3 μ3 re3 S3 ro g3 h3 => gE.thenS re3 S3 h3 fun iv H4 ia st4 μ4 re4 S4 ri g4 h4 => ?_
  simp only [bindS, stK] at h4
  split at h4
  · rename_i u st5 heq
    split at heq
    · rename_i n d
      split at heq
      · rename_i kvs hx
        split at heq
        · rename_i hk
          cases heq
          have ro4 := ro.step g4
          cases ro4 with
          | ref ro4 =>
            rename_i q
            rcases ro4 with ro4 | ro4
            · cases ri with
              | d ri =>
                obtain ⟨kk, hkk⟩ := Option.isSome_iff_exists.mp hk.1
                obtain ⟨ds, rfl⟩ := (ckey_t hkk).2.2
                cases ri with
                | tup h0 r0 =>
                  rename_i p ws
                  exact ⟨μ4, st4, n, q, p, _, x, kvs, rfl, rfl, S4, ro4, hx, .tup h0 r0, (rx.step g3).step g4, hk.1, hk.2, fun H' g5 S5 => h4 σ _ μ4 g5 S5 (re4.step g5)⟩
            · exact (S4.cell n _ _ ro4 hx).elim
        · cases heq
      · cases heq
    · cases heq
  · rename_i heq
    split at heq
    · split at heq
      · split at heq <;> cases heq
      · cases heq
    · cases heq
  · exact h4.elim
end
end Iv
set_option Elab.async false
set_option linter.all false
set_option maxRecDepth 100000
set_option maxHeartbeats 8000000
/-! Iv13: a statement's text as what it does. -/
namespace Iv
open PySem PySem.Spec PyProof.Rows L2
/-- which names hold cells; whether a new list is returned as a cell -/
structure Mu where
  mu : List Str
  rm : Bool
def isComp : Expr → Bool
  | .ListComp .. => true
  | .SetComp .. => true
  | .DictComp .. => true
  | _ => false
def isTup : Expr → Bool
  | .Tuple .. => true
  | _ => false
def isSl : Expr → Bool
  | .Slice .. => true
  | _ => false
/-- the slots of plain local names on one line -/
def parIx (G : SC) (line : Nat) : List Expr → Option (List (Str × Nat))
  | [] => some []
  | .Name x pos :: r => if G.names.lookup x = some .local ∧ (pos.line == line) = true then (slot G.N x).bind fun i => (parIx G line r).map fun is => (x, i) :: is else none
  | _ :: _ => none
def asgName (G : SC) (x : Str) : Bool := match G.names.lookup x with
  | some .local => true
  | some .cell => true
  | _ => false
/-- name = [..] where the machine stores it the other way about -/
def lcSwap (G : SC) (x : Str) (pl : Nat) : Expr → Bool
  | .ListComp _ _ scope pos => (G.names.lookup x == some .local) && (pl == pos.line) && !(scope.names.any fun (n, k) => n == x && (k == .local || k == .cell))
  | _ => false
/-- name = {..} where the machine stores it the other way about -/
def scSwap (G : SC) (x : Str) (pl : Nat) : Expr → Bool
  | .SetComp _ _ scope pos => (G.names.lookup x == some .local) && (pl == pos.line) && !(scope.names.any fun (n, k) => n == x && (k == .local || k == .cell))
  | _ => false
def isStarT : Expr → Bool
  | .Starred .. => true
  | _ => false
def unS : Expr → Expr
  | .Starred t _ => t
  | e => e
def isNm : Expr → Bool
  | .Name .. => true
  | _ => false
def isNmS : Expr → Bool
  | .Name .. => true
  | .Starred (.Name ..) _ => true
  | _ => false
/-- names, one of them starred -/
def cGN (G : SC) : List Expr → Option ((List PyData → Env → Option Env) × List Nat)
  | [] => some (aNil, [])
  | e :: r => if isNmS e = true then (cG 1 G (unS e)).bind fun m => (cGN G r).map fun q => (aCons m.1 q.1, m.2 ++ q.2) else none
/-- what is given at once; a list that is changed later on is made as a cell -/
def cAM (n : Nat) (G : SC) (mu : List Str) : List Str → List Expr → Option (Env → M (List Vl))
  | [], [] => some nilM
  | x :: xs, e :: es => (if mu.contains x then (match cC n G e with
      | some f => some f
      | none => cE n G e) else cE n G e).bind fun f => (cAM n G mu xs es).bind fun g => some (consM f g)
  | _, _ => none
mutual
def cS : Nat → SC → Mu → Stmt → Option S
  | 0, _, _, _ => none
  | n + 1, G, u, s => match s with
    | .Pass _ => some nextS
    | .Break _ => some fun ρ st => .bk ρ st
    | .Continue _ => some fun ρ st => .ct ρ st
    | .Return none _ => some retN
    | .Return (some e) _ => if u.rm = true then (match cC n G e with
        | some f => some (retS f)
        | none => (cE n G e).map retS) else (cE n G e).map retS
    | .Expr e _ => if isComp e = false then (cE n G e).map dropS else none
    | .If c a b _ => (cT n G c).bind fun k => (cB n G u a).bind fun f => (cB n G u b).bind fun g => some (ifS k f g)
    | .Assign [.Name x p] e _ => if asgName G x = true then (slot G.N x).bind fun i =>
        if lcSwap G x p.line e = true then (if u.mu.contains x then cL n G newC e else cL n G (fun xs => ret (.d (.list xs))) e).map (setS i)
        else if scSwap G x p.line e = true then (cQ n G e).map (setS i)
        else if isComp e = false ∨ G.names.lookup x = some .cell then (if u.mu.contains x then (match cC n G e with
          | some f => some f
          | none => cE n G e) else cE n G e).map (setS i) else none
      else none
    | .Assign [.Subscript o i _] e _ => if isSl i = false ∧ isComp e = false then (cE n G e).bind fun f => (cE n G o).bind fun g => (cE n G i).bind fun k => some (if dnE G o = true then subK f g k else subS f g k) else none
    | .Assign [.Tuple ts kt pt] (.Tuple vs _ _) _ => if (noStar vs && noStar ts && !(vs.all (foldedForSure 8)) && !(vs.all (constantsAlone 8)) && decide (vs.length = ts.length)) = true ∧ G.calm = true then
        (parIx G ((ts.head?.map (·.pos.line)).getD 0) ts).bind fun is => if (is.map (·.1)).Nodup ∧ (is.length = 2 ∨ is.length = 3) then (cAM n G u.mu (is.map (·.1)) vs).bind fun f => (frcL (is.map (·.2))).bind fun ix => some (parS ix f) else none
      else none
    | .Assign [.Tuple ts kt pt] e _ => if isComp e = false ∧ isTup e = false then (match ts.findIdx? isStarT with
        | some i => if G.calm = true then (cGN G ts).bind fun q => (cE n G e).bind fun f => some (asgS (aStar ts.length i q.1) f) else none
        | none => (cG n G (.Tuple ts kt pt)).bind fun q => (cE n G e).bind fun f => some (asgS q.1 f)) else none
    | .For tg iter body [] _ => if G.calm = true ∧ isSet iter = false then (cI n G tg iter).bind fun it => (cG n G tg).bind fun q => (cB n G u body).bind fun b => some (forS it q.1 b) else none
    | .Raise .. => some fun _ _ => .bad
    | .While c body [] _ => (cT n G c).bind fun k => (cB n G u body).bind fun b => some (whileS k b)
    | _ => none
def cB : Nat → SC → Mu → List Stmt → Option S
  | 0, _, _, _ => none
  | n + 1, G, u, ss => match ss with
    | [] => some nextS
    | s :: r => (cS n G u s).bind fun a => (cB n G u r).bind fun b => some (seqS a b)
end
/-- a def's body's place -/
structure OkS (G : SC) (W : WX) (X : Cx) : Prop extends Ok G W X where
  po : PassesOwn (model X.prog X.w) X.A X.env X.xe
  sc : X.env.scope.names = G.names
  sk : X.env.scope.kind = .function
section
variable {X : Cx} {W : WX} {G : SC}
theorem fold_ok {iter : Expr} {env : PySem.Env} (h : isSet iter = false) : ∀ x, foldedSetIterable iter env x = pure x := by
  intro x
  cases iter <;> first | rfl | (simp [isSet] at h)
theorem asgName_ok (O : Ok G W X) {x : Str} (h : asgName G x = true) : Loc X.env.scope x ∧ (X.fn x = true ∨ X.env.scope.names.lookup x = some .local) := by
  unfold asgName at h
  split at h
  · rename_i hk; exact O.loc _ _ hk (.inl rfl)
  · rename_i hk; exact O.loc _ _ hk (.inr rfl)
  · cases h
theorem set_of' {t : TE} {f : Env → M Vl} {i : Nat} {D : Ends} {σ : L2.St} {H : Hp} (w : ∀ Q, gE X W f σ H Q → t σ H Q) (h : gS X W (setS i f) D σ H) : tAsg t (gName i) D σ H := w _ (set_of h)
theorem blockKind_of (O : OkS G W X) : X.env.blockKind = .function := by
  unfold Env.blockKind
  rw [O.sk]
  rfl
theorem es_setLc (O : OkS G W X) {n : Nat} {fin : List PyData → M Vl} (hfin : FinOk X fin) {x : Str} {i : Nat} {p spos : Pos} {e : Expr} {m : Env → M Vl} (hs : lcSwap G x p.line e = true) (hi : slot G.N x = some i) (h : cL n G fin e = some m) :
    PS X (.Assign [.Name x p] e spos) (gS X W (setS i m)) := by
  cases n with
  | zero => cases h
  | succ n =>
  have I := comp_ok n O.toOk
  have ih := @comp_ok n
  unfold cL at h
  split at h
  · split at h
    · rename_i elt tg iter ifs as scope pos hc
      obtain ⟨ha, hcalm, hset, hblk⟩ := hc
      subst ha
      obtain ⟨it, hit, h⟩ := some_bind h
      obtain ⟨q, hq, h⟩ := some_bind h
      split at h
      · rename_i hT
        obtain ⟨tt, htt, h⟩ := some_bind h
        obtain ⟨te, hte, h⟩ := some_bind h
        obtain ⟨ix, hix, h⟩ := some_bind h
        cases h
        rw [frcL_ok hix]
        have B := O.toOk.blkOk hblk
        have fold := @fold_ok iter X.env hset
        unfold lcSwap at hs
        simp only [Bool.and_eq_true, beq_iff_eq, Bool.not_eq_true'] at hs
        obtain ⟨⟨s1, s2⟩, s3⟩ := hs
        have hloc : X.env.scope.names.lookup x = some .local := by rw [O.sc]; exact s1
        have hg : ∀ (s : Shared) (H : Hp) (C : Addr) (cl : List (Str × Addr)) (fp : List Addr), PG (X.blk s H scope (compEnvC scope cl C X.env) fp) tg (gG X q.1 q.2) := fun s H C cl fp => cG_ok n (O.toOk.blk B s H C cl fp) hq
        have ht : ∀ (s : Shared) (H : Hp) (C : Addr) (cl : List (Str × Addr)) (fp : List Addr), PTs (X.blk s H scope (compEnvC scope cl C X.env) fp) ifs (gT X W0 tt) := fun s H C cl fp => by
          have IB := ih (O.toOk.blk B s H C cl fp)
          split at htt
          · cases htt; exact ⟨fun pins s σ H Q I ⟨μ, ρ, st, re, S, h⟩ => pts_nil.run pins s σ H Q I (h.here S rfl)⟩
          · exact pts_one (IB.t _ _ htt)
          · cases htt
        have he : ∀ (s : Shared) (H : Hp) (C : Addr) (cl : List (Str × Addr)) (fp : List Addr), PE (X.blk s H scope (compEnvC scope cl C X.env) fp) elt (gE X W0 te) := fun s H C cl fp => (ih (O.toOk.blk B s H C cl fp)).e _ _ hte
        have hTT : ∀ j ∈ q.2, j ∈ (ownOf G.N scope.names).map (·.2) := fun j hj => by
          have := List.all_eq_true.mp hT j hj
          simpa [ownIx] using this
        have hPI := I.i tg iter it hit
        refine (ps_setLc (O.calm hcalm) O.nd (O.slotN hi) hloc (sw_true O.sk hloc (by simpa using s2) s3) hPI B hg ht he fold).weak fun D σ H h => set_of' (fun Q => ev_lc hfin (O.calm hcalm) O.nd hPI B hg ht he fold hTT σ H Q) h
      · cases h
    · cases h
  · cases h
theorem es_setSc (O : OkS G W X) {n : Nat} {x : Str} {i : Nat} {p spos : Pos} {e : Expr} {m : Env → M Vl} (hs : scSwap G x p.line e = true) (hi : slot G.N x = some i) (h : cQ n G e = some m) :
    PS X (.Assign [.Name x p] e spos) (gS X W (setS i m)) := by
  have B := (comp_ok n O.toOk).q _ _ h
  obtain ⟨elt, tg, iter, ifs, rest, scope, pos, own, wi, g, tt, inner, ti, rfl, hc, hpi, ok, hg, ht, hf, heq, hin, w⟩ := B
  unfold scSwap at hs
  simp only [Bool.and_eq_true, beq_iff_eq, Bool.not_eq_true'] at hs
  obtain ⟨⟨s1, s2⟩, s3⟩ := hs
  have hloc : X.env.scope.names.lookup x = some .local := by rw [O.sc]; exact s1
  exact (ps_setSc (O.toOk.slotN hi) hloc (swS_true O.sk hloc (by simpa using s2) s3) hc O.nd hpi ok hg ht hf heq hin).weak fun D σ H h => set_of' (fun Q => w σ H Q) h
theorem nocomp_swaps {e : Expr} {t : Option Expr} {l : Nat} {env : PySem.Env} (h : isComp e = false) : swapsWith e t l env = pure false := by
  cases e <;> first | rfl | (simp [isComp] at h)
theorem comp_swaps {e : Expr} {x : Str} {p : Pos} {l : Nat} {env : PySem.Env} (h : isComp e = false ∨ env.scope.names.lookup x = some .cell) : swapsWith e (some (.Name x p)) l env = pure false := by
  rcases h with h | h
  · exact nocomp_swaps h
  · have k : env.kindOf x = some .cell := h
    have z : (NameKind.cell == NameKind.local) = false := rfl
    cases e <;> first | rfl | (unfold swapsWith; simp [k, z])
theorem assign_sub_swaps {o i e : Expr} {p2 : Pos} {l : Nat} {env : PySem.Env} (h : isComp e = false) : swapsWithSole [.Subscript o i p2] e l env = pure false := nocomp_swaps (t := some (.Subscript o i p2)) (l := l) (env := env) h
theorem tup_swaps {ts : List Expr} {k : Nat} {pt : Pos} {e : Expr} {l : Nat} {env : PySem.Env} (h : isComp e = false) : swapsWithSole [.Tuple ts k pt] e l env = pure false := nocomp_swaps (t := some (.Tuple ts k pt)) (l := l) (env := env) h
theorem notup_stores {tg e : Expr} {env : PySem.Env} (h : isTup e = false) : swappedStores [tg] e env = pure none := by
  cases e <;> first | (cases tg <;> rfl) | (simp [isTup] at h)
theorem sub_stores {o i e : Expr} {p2 : Pos} {env : PySem.Env} : swappedStores [.Subscript o i p2] e env = pure none := by
  cases e <;> rfl
def nmF (env : PySem.Env) (line : Nat) : Expr → Option Str
  | .Name id pos => if env.kindOf id == some .local && pos.line == line then some id else none
  | _ => none
theorem swapped_eq {ts vs : List Expr} {kt k2 : Nat} {pt p2 : Pos} {env : PySem.Env} : swappedStores [.Tuple ts kt pt] (.Tuple vs k2 p2) env =
    (if !(ts.length == 2 || ts.length == 3) || vs.length != ts.length || env.blockKind != .function then pure none else
      if vs.any isStarT then pure none else
      if (ts.filterMap (nmF env ((ts.head?.map (·.pos.line)).getD 0))).length != ts.length || (ts.filterMap (nmF env ((ts.head?.map (·.pos.line)).getD 0))).eraseDups.length != (ts.filterMap (nmF env ((ts.head?.map (·.pos.line)).getD 0))).length then pure none else
      if vs.all (foldedForSure 8) then pure none else
      if vs.all (constantsAlone 8) then (do let _ : Unit ← unsupported "assign.tuple-of-constant-expressions:order-of-the-stores"; return some (ts.filterMap (nmF env ((ts.head?.map (·.pos.line)).getD 0)))) else
      pure (some (ts.filterMap (nmF env ((ts.head?.map (·.pos.line)).getD 0))))) := by
  rfl
theorem parIx_ok (O : OkS G W X) {line : Nat} : ∀ {ts : List Expr} {is : List (Str × Nat)}, parIx G line ts = some is →
    (ts.filterMap (nmF X.env line)) = is.map (·.1) ∧ ts.length = is.length ∧
      (∀ p ∈ is, X.N[p.2]? = some p.1 ∧ X.env.scope.names.lookup p.1 = some .local) ∧ ∃ ps : List Pos, ps.length = is.length ∧ ts = (is.zip ps).map fun q => .Name q.1.1 q.2
  | [], is, h => by cases h; exact ⟨rfl, rfl, fun _ h => (nomatch h), [], rfl, rfl⟩
  | .Name x pos :: r, is, h => by
    simp only [parIx] at h
    split at h
    · rename_i hc
      obtain ⟨i, hi, h⟩ := some_bind h
      obtain ⟨is', h', rfl⟩ := Option.map_eq_some_iff.mp h
      obtain ⟨h1, h2, h3, ps, h4, h5⟩ := parIx_ok O h'
      have hl : X.env.scope.names.lookup x = some .local := by rw [O.sc]; exact hc.1
      refine ⟨?_, by simp [h2], fun p hp => ?_, pos :: ps, by simp [h4], by simp [h5]⟩
      · have e : (X.env.kindOf x == some .local && pos.line == line) = true := by
          show (X.env.scope.names.lookup x == some .local && pos.line == line) = true
          rw [hl, hc.2]; rfl
        rw [List.filterMap_cons]
        have e' : nmF X.env line (.Name x pos) = some x := by
          show (if (X.env.kindOf x == some .local && pos.line == line) = true then some x else none) = some x
          rw [if_pos e]
        rw [e', List.map_cons, h1]
      · rcases List.mem_cons.mp hp with e | e
        · subst e; exact ⟨O.toOk.slotN hi, hl⟩
        · exact h3 p e
    · cases h
  | .BoolOp .. :: _, _, h => by cases h
  | .NamedExpr .. :: _, _, h => by cases h
  | .BinOp .. :: _, _, h => by cases h
  | .UnaryOp .. :: _, _, h => by cases h
  | .Lambda .. :: _, _, h => by cases h
  | .IfExp .. :: _, _, h => by cases h
  | .Dict .. :: _, _, h => by cases h
  | .Set .. :: _, _, h => by cases h
  | .ListComp .. :: _, _, h => by cases h
  | .SetComp .. :: _, _, h => by cases h
  | .DictComp .. :: _, _, h => by cases h
  | .GeneratorExp .. :: _, _, h => by cases h
  | .Await .. :: _, _, h => by cases h
  | .Yield .. :: _, _, h => by cases h
  | .YieldFrom .. :: _, _, h => by cases h
  | .Compare .. :: _, _, h => by cases h
  | .Call .. :: _, _, h => by cases h
  | .FormattedValue .. :: _, _, h => by cases h
  | .JoinedStr .. :: _, _, h => by cases h
  | .Constant .. :: _, _, h => by cases h
  | .Attribute .. :: _, _, h => by cases h
  | .Subscript .. :: _, _, h => by cases h
  | .Starred .. :: _, _, h => by cases h
  | .List .. :: _, _, h => by cases h
  | .Tuple .. :: _, _, h => by cases h
  | .Slice .. :: _, _, h => by cases h
theorem stars_any : ∀ {vs : List Expr}, noStar vs = true → vs.any isStarT = false
  | [], _ => rfl
  | e :: es, h => by
    rw [List.any_cons, stars_any (star_tail h)]
    cases e <;> first | rfl | (simp [noStar] at h)
theorem eraseDups_len {l : List Str} (h : l.Nodup) : l.eraseDups.length = l.length := by
  induction l with
  | nil => rfl
  | cons a l ih =>
    obtain ⟨h1, h2⟩ := List.nodup_cons.mp h
    rw [List.eraseDups_cons, List.length_cons, List.length_cons]
    have : List.filter (fun b => !b == a) l = l := List.filter_eq_self.mpr fun b hb => by
      have : b ≠ a := fun e => h1 (by rw [← e]; exact hb)
      simp [this]
    rw [this, ih h2]
theorem par_stores (O : OkS G W X) {ts vs : List Expr} {kt k2 : Nat} {pt p2 : Pos} {is : List (Str × Nat)} (h : parIx G ((ts.head?.map (·.pos.line)).getD 0) ts = some is) (hnd : (is.map (·.1)).Nodup) (hl : is.length = 2 ∨ is.length = 3) (hv : vs.length = ts.length)
    (h1 : noStar vs = true) (h2 : vs.all (foldedForSure 8) = false) (h3 : vs.all (constantsAlone 8) = false) : swappedStores [.Tuple ts kt pt] (.Tuple vs k2 p2) X.env = pure (some (is.map (·.1))) := by
  obtain ⟨e1, e2, _, _⟩ := parIx_ok O h
  have b := blockKind_of O
  have c1 : (!(ts.length == 2 || ts.length == 3) || vs.length != ts.length || X.env.blockKind != .function) = false := by
    rw [b, hv, e2]
    rcases hl with e | e <;> rw [e] <;> rfl
  have c2 : ((is.map (·.1)).length != ts.length || (is.map (·.1)).eraseDups.length != (is.map (·.1)).length) = false := by
    rw [eraseDups_len hnd, List.length_map, e2]
    simp
  rw [swapped_eq, e1, c1, stars_any h1, c2, h2, h3]
  rfl
theorem cAM_ok {W : WX} {n : Nat} {mu : List Str} (I : CompOk n G W X) : ∀ {xs : List Str} {es : List Expr} {m : Env → M (List Vl)}, noStar es = true → cAM n G mu xs es = some m → PA X es (gA X W m)
  | [], [], m, _, h => by cases h; exact ev_nil
  | x :: xs, e :: es, m, hs, h => by
    unfold cAM at h
    obtain ⟨f, hf, h⟩ := some_bind h
    obtain ⟨g, hg, h⟩ := some_bind h
    cases h
    refine ev_cons ?_ (cAM_ok I (star_tail hs) hg) (star_cons hs)
    split at hf
    · split at hf
      · rename_i f' hf'; cases hf; exact I.c _ _ hf'
      · exact I.e _ _ hf
    · exact I.e _ _ hf
  | [], _ :: _, m, _, h => by cases h
  | _ :: _, [], m, _, h => by cases h
theorem cGN_ok {W : WX} (O : Ok G W X) : ∀ {ts : List Expr} {q : (List PyData → Env → Option Env) × List Nat}, cGN G ts = some q → PGs X ts (gGs X q.1 q.2) ∧ (assignEach ts X.env).length = ts.length ∧ (assignEach ts X.env).findIdx? (·.1) = ts.findIdx? isStarT
  | [], q, h => by cases h; exact ⟨eg_nil, rfl, rfl⟩
  | e :: r, q, h => by
    unfold cGN at h
    split at h
    · rename_i hn
      obtain ⟨m, hm, h⟩ := some_bind h
      obtain ⟨q', hq, rfl⟩ := Option.map_eq_some_iff.mp h
      obtain ⟨h1, h2, h3⟩ := cGN_ok O hq
      have p := cG_ok 1 O hm
      unfold isNmS at hn
      split at hn
      · rename_i x ps
        refine ⟨eg_cons p h1 rfl, by show (assignEach r X.env).length + 1 = _; rw [h2]; rfl, ?_⟩
        show List.findIdx? _ ((false, assign (.Name x ps) X.env) :: assignEach r X.env) = List.findIdx? isStarT (.Name x ps :: r)
        rw [List.findIdx?_cons, List.findIdx?_cons, h3]
        rfl
      · rename_i x ps ps'
        have p' : PG X (.Name x ps) (gG X m.1 m.2) := p
        refine ⟨(eg_cons p' h1 rfl).cast rfl, by show (assignEach r X.env).length + 1 = _; rw [h2]; rfl, ?_⟩
        show List.findIdx? _ ((true, assign (.Name x ps) X.env) :: assignEach r X.env) = List.findIdx? isStarT (.Starred (.Name x ps) ps' :: r)
        rw [List.findIdx?_cons, List.findIdx?_cons, h3]
        rfl
      · cases hn
    · cases h
theorem stmt_ok : ∀ (n : Nat) {G : SC} {u : Mu} {W : WX} {X : Cx}, OkS G W X → (∀ s m, cS n G u s = some m → PS X s (gS X W m)) ∧ (∀ ss m, cB n G u ss = some m → PSs X ss (gS X W m)) := by
  intro n
  induction n with
  | zero => intro G u W X O; refine ⟨?_, ?_⟩ <;> (intros; rename_i h; simp [cS, cB] at h)
  | succ n ih =>
    intro G u W X O
    have I := comp_ok n O.toOk
    obtain ⟨IS, IB⟩ := ih (u := u) O
    refine ⟨fun s m h => ?_, fun ss m h => ?_⟩
    · unfold cS at h
      split at h
      · cases h; exact es_pass
      · cases h; exact es_break
      · cases h; exact es_continue
      · cases h; exact es_retN
      · have go : ∀ {e : Expr} {m : S} {pos : Pos}, (cE n G e).map retS = some m → PS X (.Return (some e) pos) (gS X W m) := fun h => by
          obtain ⟨f, hf, rfl⟩ := Option.map_eq_some_iff.mp h
          exact es_ret (I.e _ _ hf)
        split at h
        · split at h
          · rename_i f hf; cases h; exact es_ret (I.c _ _ hf)
          · exact go h
        · exact go h
      · split at h
        · rename_i hc
          obtain ⟨f, hf, rfl⟩ := Option.map_eq_some_iff.mp h
          exact es_expr (I.e _ _ hf) (nocomp_swaps hc)
        · cases h
      · obtain ⟨k, hk, h⟩ := some_bind h; obtain ⟨f, hf, h⟩ := some_bind h; obtain ⟨g, hg, h⟩ := some_bind h; cases h
        exact es_if (I.t _ _ hk) (IB _ _ hf) (IB _ _ hg)
      · split at h
        · rename_i ha
          obtain ⟨i, hi, h⟩ := some_bind h
          obtain ⟨hx, hf⟩ := asgName_ok O.toOk ha
          split at h
          · rename_i hs
            obtain ⟨f, hff, rfl⟩ := Option.map_eq_some_iff.mp h
            split at hff
            · exact es_setLc O fin_cell hs hi hff
            · exact es_setLc O fin_frz hs hi hff
          split at h
          · rename_i hs
            obtain ⟨f, hff, rfl⟩ := Option.map_eq_some_iff.mp h
            exact es_setSc O hs hi hff
          · split at h
            · rename_i hc
              obtain ⟨f, hff, rfl⟩ := Option.map_eq_some_iff.mp h
              refine es_set O.nd (O.toOk.slotN hi) hx hf ?_ (comp_swaps (hc.imp id fun z => by rw [O.sc]; exact z))
              split at hff
              · split at hff
                · rename_i f' hf'; cases hff; exact I.c _ _ hf'
                · exact I.e _ _ hff
              · exact I.e _ _ hff
            · cases h
        · cases h
      · split at h
        · rename_i o i p2 e pos hc
          obtain ⟨f, hf, h⟩ := some_bind h; obtain ⟨g, hg, h⟩ := some_bind h; obtain ⟨k, hk, h⟩ := some_bind h; cases h
          have nsl : ∀ lo hi p, i ≠ .Slice lo hi none p := fun lo hi p e => by
            subst e; simp [isSl] at hc
          split
          · exact es_subK O.units (I.e _ _ hf) (I.e _ _ hg) (I.e _ _ hk) (assign_sub_swaps hc.2) sub_stores nsl
          · exact es_sub (I.e _ _ hf) (I.e _ _ hg) (I.e _ _ hk) (assign_sub_swaps hc.2) sub_stores nsl
        · cases h
      · split at h
        · rename_i ts kt pt vs k2 p2 pos hc
          simp only [Bool.and_eq_true, Bool.not_eq_true', decide_eq_true_eq] at hc
          obtain ⟨⟨⟨⟨⟨c1, c2⟩, c3⟩, c4⟩, c5⟩, c6⟩ := hc
          obtain ⟨is, his, h⟩ := some_bind h
          split at h
          · rename_i hd
            obtain ⟨f, hf, h⟩ := some_bind h
            obtain ⟨ix, hix, h⟩ := some_bind h
            cases h
            rw [frcL_ok hix]
            have hcalm := O.calm c6
            have hst := par_stores (kt := kt) (k2 := k2) (pt := pt) (p2 := p2) O his hd.1 hd.2 c5 c1 c3 c4
            obtain ⟨e1, e2, e3, ps, e4, e5⟩ := parIx_ok O his
            have hsw : swapsWithSole [.Tuple ts kt pt] (.Tuple vs k2 p2) pos.line X.env = pure false := rfl
            have hA := cAM_ok I c1 hf
            have neix : ∀ {x y : Str} {i j : Nat}, X.N[i]? = some x → X.N[j]? = some y → x ≠ y → i ≠ j := fun h1 h2 h3 e => by
              subst e; rw [h1] at h2; cases h2; exact h3 rfl
            rcases hd.2 with hl | hl
            · match is, hl, ps, e4 with
              | [(x, i), (y, j)], _, [px, py], _ =>
                have e5' : ts = [.Name x px, .Name y py] := e5
                subst e5'
                match vs, c5 with
                | [a, b], _ =>
                  have nd2 : x ≠ y := by
                    have := hd.1; simp at this; exact this
                  obtain ⟨n1, l1⟩ := e3 (x, i) (by simp)
                  obtain ⟨n2, l2⟩ := e3 (y, j) (by simp)
                  exact (ps_par hcalm O.nd n1 n2 (neix n1 n2 nd2) l1 l2 hA hst hsw).weak fun D σ H h => par2_of h
            · match is, hl, ps, e4 with
              | [(x, i), (y, j), (z, l)], _, [px, py, pz], _ =>
                have e5' : ts = [.Name x px, .Name y py, .Name z pz] := e5
                subst e5'
                match vs, c5 with
                | [a, b, c], _ =>
                  have nd3 : (x ≠ y ∧ x ≠ z) ∧ y ≠ z := by
                    have := hd.1; simp at this; exact this
                  obtain ⟨n1, l1⟩ := e3 (x, i) (by simp)
                  obtain ⟨n2, l2⟩ := e3 (y, j) (by simp)
                  obtain ⟨n3, l3⟩ := e3 (z, l) (by simp)
                  exact (ps_par3 hcalm O.nd n1 n2 n3 (neix n1 n2 nd3.1.1) (neix n1 n3 nd3.1.2) (neix n2 n3 nd3.2) l1 l2 l3 hA hst hsw).weak fun D σ H h => par3_of h
          · cases h
        · cases h
      · split at h
        · rename_i ts kt pt e pos _ hc
          split at h
          · rename_i i hi
            split at h
            · rename_i hca
              obtain ⟨q, hq, h⟩ := some_bind h; obtain ⟨f, hf, h⟩ := some_bind h; cases h
              obtain ⟨g1, g2, g3⟩ := cGN_ok O.toOk hq
              exact es_asgX (I.e _ _ hf) (pg_star (O.calm hca) g1 g2 (by rw [g3]; exact hi)) (tup_swaps hc.1) (notup_stores hc.2) rfl
            · cases h
          · obtain ⟨q, hq, h⟩ := some_bind h; obtain ⟨f, hf, h⟩ := some_bind h; cases h
            exact es_asg (I.e _ _ hf) (cG_ok n O.toOk hq) (tup_swaps hc.1) (notup_stores hc.2) rfl
        · cases h
      · split at h
        · rename_i hc
          obtain ⟨it, hit, h⟩ := some_bind h; obtain ⟨q, hq, h⟩ := some_bind h; obtain ⟨b, hb, h⟩ := some_bind h; cases h
          exact es_for O.po (O.calm hc.1) (I.i _ _ _ hit) (cG_ok n O.toOk hq) (IB _ _ hb) (fold_ok hc.2)
        · cases h
      · cases h; exact ⟨fun pins s σ H D I ⟨_, _, _, _, _, q⟩ => q.elim⟩
      · obtain ⟨k, hk, h⟩ := some_bind h; obtain ⟨b, hb, h⟩ := some_bind h; cases h
        exact es_while O.po (I.t _ _ hk) (IB _ _ hb)
      · cases h
    · unfold cB at h
      split at h
      · cases h; exact es_nil
      · obtain ⟨a, ha, h⟩ := some_bind h; obtain ⟨b, hb, h⟩ := some_bind h; cases h
        exact es_cons (IS _ _ ha) (IB _ _ hb)
end
end Iv
set_option Elab.async false
set_option linter.all false
set_option maxRecDepth 100000
set_option maxHeartbeats 8000000
/-! Iv14: defs: what a call computes; the machine does it. -/
namespace Iv
open PySem PySem.Spec PyProof.Rows L2
/-- a def of the text -/
structure FD where
  name : Str
  own : Str := name
  st : Stmt
  N : List Str
  np : Nat
  kw : List (Str × Option PyData) := []
  sh : List (List Str) := [[]]
  u : Mu := ⟨[], false⟩
  sn : List Str := []
  dn : List Str := []
def FD.fi (f : FD) : FI := ⟨f.np, f.kw, f.sh⟩
/-- its parameters -/
def FD.ps (f : FD) : List Str := f.N.take (f.np + f.kw.length)
def findF : List FD → Str → Option FD
  | [], _ => none
  | f :: r, x => if f.name = x then some f else findF r x
/-- a name of the module that is no def -/
inductive OV where
  | cst (d : PyData)
  | cls
  | dct (kvs : List (Str × DV))
def OV.gv : OV → GVal
  | .cst d => .cst d
  | .cls => .cls
  | .dct kvs => .dct kvs
/-- what is known of a module's top -/
structure Pg where
  fns : List FD
  oth : List (Str × OV)
  so : Bool := false
def Pg.glob (P : Pg) (x : Str) : Option GVal := match findF P.fns x with
  | some f => some (.fn f.fi)
  | none => (P.oth.lookup x).map OV.gv

/-- what is handed back: a new cell goes along, no other -/
def backM (n0 : Nat) (v : Vl) : M Vl := fun st => match v with
  | .d x => .ok (.d x) (st.take n0)
  | .gl x => .ok (.gl x) (st.take n0)
  | .ty x => .ok (.ty x) (st.take n0)
  | .ref k => if k < n0 then .ok (.ref k) (st.take n0) else match st[k]? with
    | some (.lst xs) => .ok (.ref n0) (st.take n0 ++ [.lst xs])
    | some (.dct xs) => .ok (.ref n0) (st.take n0 ++ [.dct xs])
    | some (.set so ks) => .ok (.ref n0) (st.take n0 ++ [.set so ks])
    | some (.dtk kvs) => .ok (.ref n0) (st.take n0 ++ [.dtk kvs])
    | _ => .bad
def env0 (N : Nat) (as : List Vl) : Env := as.map some ++ List.replicate (N - as.length) none
def runB (b : S) (N : Nat) (as : List Vl) : M Vl := fun st => match b (env0 N as) st with
  | .nx _ st' => backM st.length (.d .none) st'
  | .rt v st' => backM st.length v st'
  | .ex e _ st' => .ex e (st'.take st.length)
  | _ => .bad
def scF (P : Pg) (c : Str → List Vl → M Vl) (f : FD) : SC := { N := f.N, names := (defScope f.st).names, glob := P.glob, call := c, calm := true, so := P.so, sn := f.sn, dn := f.dn }
def bodyF (P : Pg) (c : Str → List Vl → M Vl) (f : FD) : Option S := cB 1000 (scF P c f) f.u (defBody f.st)
def callN (P : Pg) : Nat → Str → List Vl → M Vl
  | 0, _ => fun _ => nope
  | n + 1, x => match findF P.fns x with
    | some f => match bodyF P (callN P n) f with
      | some b => runB b f.N.length
      | none => fun _ => nope
    | none => fun _ => nope

section
variable {K : PySem.W.Frag} {mg : Str → Option Value} {X : Cx}
theorem RC.kr {μ μ' : Mp} {H : Hp} (k : Kr μ H μ' H) {x : Option Addr} {c : Cell} (h : RC K μ H x c) : RC K μ' H x c := by
  cases x with
  | none => cases c <;> first | exact h | exact h.elim
  | some a =>
    cases c with
    | lst xs => obtain ⟨vs, h1, h2⟩ := h; exact ⟨vs, h1, h2.kr k⟩
    | dct xs => obtain ⟨vs, h1, h2⟩ := h; exact ⟨vs, h1, h2.kr k⟩
    | set so ks => exact h
    | dtk kvs => obtain ⟨z, nd, es, ep, xs, vs, h1, h2, h3, h4, h5⟩ := h; exact ⟨z, nd, es, ep, xs, vs, h1, h2, h3.kr k, h4, h5.kr k⟩
    | dead => exact h.elim
/-- the callee's own cells are let go -/
theorem Kr.take {μ : Mp} {H : Hp} (n : Nat) : Kr μ H ⟨μ.c.take n, μ.h⟩ H := fun a u r z => ⟨r, fun q => z.1 (List.mem_of_mem_take q), z.2⟩
theorem RSt.take {μ : Mp} {H : Hp} {st : Sto} (S : RSt K μ H st) (n : Nat) : RSt K ⟨μ.c.take n, μ.h⟩ H (st.take n) := by
  refine ⟨by simp [S.len], S.hid, fun a ha q => S.dis a ha (List.mem_of_mem_take q), fun i j a h1 h2 => ?_, fun m x c h1 h2 => ?_⟩
  · have o : ∀ k : Nat, (μ.c.take n)[k]? = some (some a) → μ.c[k]? = some (some a) := fun k h => by
      rw [List.getElem?_take] at h
      split at h
      · exact h
      · cases h
    exact S.nd i j a (o i h1) (o j h2)
  · replace h1 : (μ.c.take n)[m]? = some x := h1
    rw [List.getElem?_take] at h1 h2
    split at h1
    · rename_i hm
      rw [if_pos hm] at h2
      exact (S.cell m x c h1 h2).kr (Kr.take n)
    · cases h1
theorem Grow.take {μ μ' : Mp} {H H' : Hp} {st : Sto} (S : RSt K μ H st) (g : Grow μ H μ' H') : Grow μ H ⟨μ'.c.take st.length, μ'.h⟩ H' := by
  refine ⟨fun a o e n => ⟨(g.fz a o e n).1, fun q => (g.fz a o e n).2 (List.mem_of_mem_take q)⟩, g.hd, ?_, fun n x h => ?_⟩
  · show μ.c.length ≤ (μ'.c.take st.length).length
    rw [List.length_take, S.len]
    have := g.len
    rw [S.len] at this
    omega
  · have hl := (List.getElem?_eq_some_iff.mp h).1
    rw [S.len] at hl
    show (μ'.c.take st.length)[n]? = some x ∨ (μ'.c.take st.length)[n]? = some none
    rw [List.getElem?_take, if_pos hl]
    exact g.at_ n x h
/-- .. but one -/
theorem RSt.keep1 {μ : Mp} {H : Hp} {st : Sto} (S : RSt K μ H st) (n k : Nat) (hn : n ≤ st.length) (hk : n ≤ k) {a : Addr} {c : Cell} (ha : μ.c[k]? = some (some a)) (hc : st[k]? = some c) :
    RSt K ⟨μ.c.take n ++ [some a], μ.h⟩ H (st.take n ++ [c]) := by
  have T := S.take n
  have kr : Kr μ H ⟨μ.c.take n ++ [some a], μ.h⟩ H := fun b u r z => ⟨r, fun q => by
    rcases List.mem_append.mp q with q | q
    · exact z.1 (List.mem_of_mem_take q)
    · have e := Option.some.inj (List.mem_singleton.mp q); subst e; exact z.1 (List.mem_of_getElem? ha), z.2⟩
  have hlen : (μ.c.take n).length = n := by rw [List.length_take, S.len]; omega
  have hlen2 : (st.take n).length = n := by rw [List.length_take]; omega
  refine ⟨by simp [S.len], S.hid, fun b hb q => ?_, fun i j b h1 h2 => ?_, fun m x c' h1 h2 => ?_⟩
  · rcases List.mem_append.mp q with q | q
    · exact S.dis b hb (List.mem_of_mem_take q)
    · have e := Option.some.inj (List.mem_singleton.mp q)
      subst e
      exact S.dis b hb (List.mem_of_getElem? ha)
  · have out : ∀ i : Nat, (μ.c.take n ++ [some a])[i]? = some (some b) → (i < n ∧ μ.c[i]? = some (some b)) ∨ (i = n ∧ b = a) := fun i h => by
      by_cases q : i < n
      · rw [List.getElem?_append_left (by omega), List.getElem?_take, if_pos q] at h; exact .inl ⟨q, h⟩
      · rw [List.getElem?_append_right (by omega), hlen] at h
        have q0 : i - n = 0 := by
          have := (List.getElem?_eq_some_iff.mp h).1
          simp at this; omega
        rw [q0] at h
        simp at h
        exact .inr ⟨by omega, h.symm⟩
    rcases out i h1 with ⟨a1, a2⟩ | ⟨a1, a2⟩
    · rcases out j h2 with ⟨b1, b2⟩ | ⟨b1, b2⟩
      · exact S.nd i j b a2 b2
      · subst b2; have := S.nd i k b a2 ha; omega
    · rcases out j h2 with ⟨b1, b2⟩ | ⟨b1, b2⟩
      · subst a2; have := S.nd j k b b2 ha; omega
      · omega
  · replace h1 : (μ.c.take n ++ [some a])[m]? = some x := h1
    by_cases q : m < n
    · rw [List.getElem?_append_left (by omega), List.getElem?_take, if_pos q] at h1
      rw [List.getElem?_append_left (by omega), List.getElem?_take, if_pos q] at h2
      exact (S.cell m x c' h1 h2).kr kr
    · rw [List.getElem?_append_right (by omega), hlen] at h1
      rw [List.getElem?_append_right (by omega), hlen2] at h2
      have q0 : m - n = 0 := by
        have := (List.getElem?_eq_some_iff.mp h1).1
        simp at this; omega
      rw [q0] at h1 h2
      simp at h1 h2
      subst h1; subst h2
      exact (S.cell k _ _ ha hc).kr kr
theorem back_ok {μ μ' : Mp} {H H' : Hp} {st st' : Sto} {Q : VK} {E : XK} {v : V} {a : Vl} (S : RSt K μ H st) (g : Grow μ H μ' H') (S' : RSt K μ' H' st') (r : RV K mg μ' H' v a) (h : Post K mg (RV K mg) μ H Q E (backM st.length a st')) : Q v H' := by
  have n0 : st.length ≤ st'.length := by rw [← S.len, ← S'.len]; exact g.len
  cases a with
  | d x => cases r with | d r => exact h v H' _ (g.take S) (S'.take _) (.d (r.kr (Kr.take _)))
  | gl x => cases r with | gl r => exact h _ H' _ (g.take S) (S'.take _) (.gl r)
  | ty x => cases r; exact h _ H' _ (g.take S) (S'.take _) (.ty x)
  | ref k =>
    cases r with
    | ref r =>
      rename_i p
      simp only [backM] at h
      split at h
      · rename_i hk
        refine h _ H' _ (g.take S) (S'.take _) (.ref ?_)
        show (μ'.c.take st.length)[k]? = _ ∨ (μ'.c.take st.length)[k]? = _
        rw [List.getElem?_take, if_pos hk]
        exact r
      · rename_i hk
        have fin : ∀ c, st'[k]? = some c → c ≠ .dead → Post K mg (RV K mg) μ H Q E (.ok (.ref st.length) (st'.take st.length ++ [c])) → Q (.ref p) H' := by
          intro c hc hd h
          have r1 : μ'.c[k]? = some (some p) := by
            rcases r with r | r
            · exact r
            · have := S'.cell k _ _ r hc
              cases c with
              | dead => exact absurd rfl hd
              | lst xs => exact this.elim
              | dct xs => exact this.elim
              | set so ks => exact this.elim
              | dtk kvs => exact this.elim
          have T := S'.keep1 st.length k n0 (by omega) r1 hc
          have gt := g.take S
          refine h _ H' ⟨μ'.c.take st.length ++ [some p], μ'.h⟩ ⟨fun a o e n => ?_, g.hd, ?_, fun n x hx => ?_⟩ T (.ref (.inl ?_))
          · obtain ⟨e1, n1⟩ := g.fz a o e n
            refine ⟨e1, fun q => ?_⟩
            rcases List.mem_append.mp q with q | q
            · exact n1 (List.mem_of_mem_take q)
            · have e := Option.some.inj (List.mem_singleton.mp q); subst e; exact n1 (List.mem_of_getElem? r1)
          · have := gt.len
            show μ.c.length ≤ (μ'.c.take st.length ++ [some p]).length
            rw [List.length_append]
            exact Nat.le_trans this (Nat.le_add_right _ _)
          · have hl := (List.getElem?_eq_some_iff.mp hx).1
            rw [S.len] at hl
            have hl2 : n < (μ'.c.take st.length).length := by rw [List.length_take, S'.len]; omega
            show (μ'.c.take st.length ++ [some p])[n]? = some x ∨ (μ'.c.take st.length ++ [some p])[n]? = some none
            rw [List.getElem?_append_left hl2, List.getElem?_take, if_pos hl]
            exact g.at_ n x hx
          · have hl2 : (μ'.c.take st.length).length = st.length := by rw [List.length_take, S'.len]; omega
            show (μ'.c.take st.length ++ [some p])[st.length]? = _
            rw [List.getElem?_append_right (by omega), hl2]
            simp
        split at h
        · rename_i xs hx; exact fin _ hx nofun h
        · rename_i xs hx; exact fin _ hx nofun h
        · rename_i so ks hx; exact fin _ hx nofun h
        · rename_i kvs hx; exact fin _ hx nofun h
        · exact h.elim
theorem RE.start {μ : Mp} {H : Hp} {N : List Str} {vs : List V} {as : List Vl} (r : RVs K mg μ H vs as) : RE K mg μ H (start N vs) (env0 N.length as) := by
  have hl : vs.length = as.length := by induction r with | nil => rfl | cons _ _ ih => simp [ih]
  refine ⟨by simp [L2.start, env0, hl], fun i x e => ?_⟩
  unfold env0 at e
  unfold L2.start
  by_cases q : i < as.length
  · rw [List.getElem?_append_left (by simpa using q)] at e
    rw [List.getElem?_append_left (by simpa [hl] using q)]
    rw [List.getElem?_map] at e
    have get : ∀ {vs : List V} {as : List Vl}, RVs K mg μ H vs as → ∀ {i : Nat} {x : Vl}, as[i]? = some x → ∃ v, vs[i]? = some v ∧ RV K mg μ H v x := by
      intro vs as r
      induction r with
      | nil => intro i x e; simp at e
      | cons h t ih =>
        intro i x e
        cases i with
        | zero => simp at e; subst e; exact ⟨_, rfl, h⟩
        | succ i => simp at e; obtain ⟨v, h1, h2⟩ := ih e; exact ⟨v, by simpa using h1, h2⟩
    cases e1 : as[i]? with
    | none => rw [e1] at e; cases e
    | some y =>
      rw [e1] at e
      simp at e
      subst e
      obtain ⟨v, h1, h2⟩ := get r e1
      refine ⟨v, ?_, h2⟩
      have : i < (vs.map some).length := by simpa [hl] using q
      rw [List.getElem?_map, h1]
      rfl
  · rw [List.getElem?_append_right (by simpa using q)] at e
    rw [List.getElem?_replicate] at e
    split at e <;> cases e

/-- the facts of a def: where it stands, how its arguments bind -/
structure FFact (K : PySem.W.Frag) (mg : Str → Option Value) (f : FD) : Prop where
  ex : ∃ (a : Addr) (fd : FuncData) (qual : Str), Fun K f.own qual f.st a fd ∧ mg f.name = some (.ref a) ∧ ∀ ks ∈ f.sh, BindsK K fd f.ps f.fi ks
  sc : FnScope f.N f.ps (defScope f.st)
  np : f.np + f.kw.length ≤ f.N.length
/-- the facts of a module -/
structure PFact (K : PySem.W.Frag) (w : World) (mg : Str → Option Value) (P : Pg) : Prop where
  fns : ∀ f ∈ P.fns, FFact K mg f
  cl : ∀ x, P.oth.lookup x = some .cls → ∃ a, mg x = some (.ref a)
  cst : ∀ x d, P.oth.lookup x = some (.cst d) → ∃ u v, mg x = some u ∧ RelV v u ∧ ∀ μ H, RP K μ H v d
  dc : ∀ x kvs, P.oth.lookup x = some (.dct kvs) → ∃ (d : Addr) (es : Array DictEntry) (n : Nat), mg x = some (.ref d) ∧ KDict K w d es n ∧
    (∀ z dv, kvs.lookup z = some dv → ∃ u v, PySem.W.nsIn K d z = some (some u) ∧ RelV v u ∧ ∀ μ H, RV K mg μ H v dv.vl) ∧ (∀ z, kvs.lookup z = none → PySem.W.nsIn K d z = some none) ∧ es.toList.map He.keyOf = He.keysIn w.params (kvs.map (·.1))
  blt : ∀ x, P.glob x = none → x ∈ bltNames → mg x = none
  so : P.so = w.params.followText "set-order"
theorem Pg.fn_of {P : Pg} {x : Str} {i : FI} (h : P.glob x = some (.fn i)) : ∃ f, findF P.fns x = some f ∧ f.fi = i := by
  unfold Pg.glob at h
  split at h
  · rename_i f e; cases h; exact ⟨f, e, rfl⟩
  · cases e : P.oth.lookup x with
    | none => rw [e] at h; cases h
    | some v => rw [e] at h; cases v <;> cases h
theorem Pg.oth_of {P : Pg} {x : Str} {g : GVal} (h : P.glob x = some g) (n : ∀ i, g ≠ .fn i) : ∃ v, P.oth.lookup x = some v ∧ v.gv = g := by
  unfold Pg.glob at h
  split at h
  · rename_i f e; cases h; exact absurd rfl (n _)
  · exact Option.map_eq_some_iff.mp h
theorem findF_mem {x : Str} : ∀ {l : List FD} {f : FD}, findF l x = some f → f ∈ l ∧ f.name = x
  | [], _, h => by cases h
  | g :: r, f, h => by
    unfold findF at h
    split at h
    · rename_i e; cases h; exact ⟨List.mem_cons_self, e⟩
    · obtain ⟨h1, h2⟩ := findF_mem h; exact ⟨List.mem_cons_of_mem _ h1, h2⟩
theorem fun_ok {Pr0 : Program} {w : World} {base : Heap} {P : Pg} (F : PFact K w mg P) : ∀ (n : Nat) (x : Str) (f : FD), findF P.fns x = some f → ∀ (a : Addr) (fd : FuncData) (qual : Str), Fun K f.own qual f.st a fd →
    FnG Pr0 w K mg base (n + 1) a fd f.ps (spI K mg (callN P n x) (f.np + f.kw.length)) := by
  have lenOf : ∀ {c : List Vl → M Vl} {m : Nat} {vs H Q E}, spI K mg c m vs H Q E → vs.length = m := by
    intro c m vs H Q E ⟨μ, st, as, r, S, p⟩
    have hl : vs.length = as.length := by clear p; induction r with | nil => rfl | cons _ _ ih => simp [ih]
    unfold guardN at p
    split at p
    · rename_i h; rw [hl, h]
    · exact p.elim
  intro n
  induction n with
  | zero =>
    intro x f hf a fd qual hF
    have hff := F.fns f (findF_mem hf).1
    refine ⟨fun vs H Q E h => ?_, fun A outer s H args us vs Q E _ _ _ _ _ h => ?_⟩
    · rw [lenOf h, FD.ps, List.length_take, Nat.min_eq_left hff.np]
    · obtain ⟨μ, st, as, r, S, p⟩ := h
      unfold guardN at p
      split at p
      · exact p.elim
      · exact p.elim
  | succ n ih =>
    intro x f hf a fd qual hF
    have hff := F.fns f (findF_mem hf).1
    refine fn_g hF hff.sc (fun vs H Q E h => ?_) fun cdv hcd A outer s H vs Q E hr gd h => ?_
    · rw [lenOf h, FD.ps, List.length_take, Nat.min_eq_left hff.np]
    · obtain ⟨μ, st, as, r, S, p⟩ := h
      unfold guardN at p
      split at p
      · simp only [callN, hf] at p
        cases hb : bodyF P (callN P n) f with
        | none => rw [hb] at p; exact p.elim
        | some b =>
          rw [hb] at p
          have O : OkS (scF P (callN P n) f) (fun cls d _ H => E cls d H) (cxOf (L2.CX Pr0 w) Pr0 w K mg base f.N qual (defScope f.st) a cdv A outer s H E) := by
            refine ⟨⟨rfl, hff.sc.nd, fun x k h hk => ?_, fun x k h hk => ?_, fun x h => h, fun x k h hk => ?_, fun x h => h, fun _ => rfl, F.so, hcd, ?_, gd, takes_of rfl rfl rfl rfl, fun x d h => ?_, fun x m h => ?_, fun x kvs h => ?_, fun x h => ?_, F.blt, fun _ x m h => ?_⟩, passes_of rfl, rfl, hff.sc.kind⟩
            · rcases hk with rfl | rfl | rfl
              · exact .inl h
              · exact .inr (.inl h)
              · exact .inr (.inr h)
            · rcases hk with rfl | rfl
              · exact ⟨.inl h, .inl rfl⟩
              · exact ⟨.inr h, .inl rfl⟩
            · rcases hk with rfl | rfl
              · exact .inl h
              · exact .inr h
            · have := hr.un
              show (A.deeper (envOfC qual (defScope f.st) s.heap.objs.size a cdv)).units + 66 < cLine
              omega
            · obtain ⟨v, e1, e2⟩ := Pg.oth_of h nofun
              cases v <;> cases e2
              exact F.cst x _ e1
            · obtain ⟨g, hg, _⟩ := Pg.fn_of h
              obtain ⟨a', _, _, _, e, _⟩ := (F.fns g (findF_mem hg).1).ex
              rw [(findF_mem hg).2] at e
              exact ⟨a', e⟩
            · obtain ⟨v, e1, e2⟩ := Pg.oth_of h nofun
              cases v <;> cases e2
              exact F.dc x _ e1
            · obtain ⟨v, e1, e2⟩ := Pg.oth_of h nofun
              cases v <;> cases e2
              exact F.cl x e1
            · obtain ⟨g, hg, hm⟩ := Pg.fn_of h
              have hgf := F.fns g (findF_mem hg).1
              obtain ⟨a', fd', qual', e1, e2, e3⟩ := hgf.ex
              subst hm
              refine ⟨a', fd', g.ps, n + 1, ?_, by rw [← (findF_mem hg).2]; exact e2, e1.kp, e3, hr, ih x g hg a' fd' qual' e1⟩
              show (g.N.take (g.np + g.kw.length)).length = g.np + g.kw.length
              rw [List.length_take, Nat.min_eq_left hgf.np]
          refine ⟨_, (stmt_ok 1000 O).2 _ _ hb, μ, env0 f.N.length as, st, RE.start r, S, ?_⟩
          replace p : Post K mg (RV K mg) μ H Q E (runB b f.N.length as st) := p
          unfold runB at p
          cases e : b (env0 f.N.length as) st with
          | nx ρ' st' => rw [e] at p; exact fun σ' H' μ' g S' re => back_ok S g S' (.d .non) p
          | rt v st' => rw [e] at p; exact fun y H' μ' g S' rv => back_ok S g S' rv p
          | ex x' ρ' st' =>
            rw [e] at p
            intro cls d σ' H' μ' g S' re ⟨C, c1, c2, c3⟩
            refine p cls d H' _ (g.take S) (S'.take _) ⟨C, c1, c2, ?_⟩
            rcases c3 with c3 | ⟨dd, ws, d1, d2, d3, d4, d5⟩
            · exact .inl c3
            · exact .inr ⟨dd, ws, d1, d2, (Kr.take _ dd _ (.inl d2) d3).2, d4, d5.kr (Kr.take _)⟩
          | bk ρ' st' => rw [e] at p; exact p.elim
          | ct ρ' st' => rw [e] at p; exact p.elim
          | bad => rw [e] at p; exact p.elim
      · exact p.elim
end
end Iv
set_option Elab.async false
set_option linter.all false
set_option maxRecDepth 100000
set_option maxHeartbeats 4000000
/-! Iv15: the law's own head, from what callN tells of it. -/
namespace Iv
open PySem PySem.Spec PyProof.Rows L2
/-- nothing is known but one list, for good -/
def Lone (H : Hp) (a : Addr) : Prop := ∀ b, H b = none ∨ (b = a ∧ ∃ o xs, H b = some (.frz o (.lst xs)))
section
variable {P0 : Program} {w : World} {K : PySem.W.Frag} {mg mb : Str → Option Value}
theorem rps_ints {μ : Mp} {H : Hp} : ∀ ns : List Int, RPs K μ H (ns.map V.int) (ns.map PyData.int)
  | [] => .nil
  | n :: ns => .cons (.int n) (rps_ints ns)
/-- what a law has to tell -/
def Told (P : Pg) (n : Nat) : Prop := ∀ ns : List Int, ns.length ≤ 63 → ∃ st, callN P n "law" [.d (.list (ns.map .int))] [] = .ok (.d (.bool true)) st
theorem told_sp {P : Pg} {n : Nat} (T : Told P n) {H : Hp} {a : Addr} {ns : List Int} (hl : ns.length ≤ 63) (h : SqL K H a (ns.map V.int)) : spI K mg (callN P n "law") 1 [.ref a] H (fun v _ => v = .bl true) fun _ _ _ => False := by
  refine ⟨⟨[], []⟩, [], [.d (.list (ns.map .int))], .cons (.d (.lst (h.imp (fun r => ⟨r, nofun, nofun⟩) id) (rps_ints ns))) .nil, ⟨rfl, nofun, nofun, nofun, nofun⟩, ?_⟩
  obtain ⟨st, e⟩ := T ns hl
  show Post K mg (RV K mg) _ H _ _ (guardN 1 (callN P n "law") [.d (.list (ns.map .int))] [])
  rw [show guardN 1 (callN P n "law") [.d (.list (ns.map .int))] [] = callN P n "law" [.d (.list (ns.map .int))] [] from rfl, e]
  intro v H' μ' _ _ r
  cases r with | d r => cases r; rfl
theorem law_g {k : Nat} {fa a : Addr} {fd : FuncData} {x : Str} {sp : Sp} {t : Shared} {vs : List Value} {ns : List Int} (kin : K.In t.heap) (gl : t.heap.Ns mainGlobals mg) (bn : t.heap.Ns builtinsNs mb) (bb : ∀ y : Str, y ≠ "__name__" → mb y = bootBuiltins y) (nl : t.heap.NoLimit) (gens : t.gens = #[])
    (at_ : t.heap.get? a = some { cls := .type "list", data := .seq vs.toArray }) (are : IntsAre vs ns) (few : ns.length ≤ sizeLine) (room : Room k callerA) (F : ∀ base : Heap, K.In base → base.Ns mainGlobals mg → FnG P0 w K mg base k fa fd [x] sp)
    (bd : Binds K fd [x] []) (ask : ∀ H : Hp, SqL K H a (ns.map V.int) → sp [.ref a] H (fun v _ => v = .bl true) fun _ _ _ => False) :
    codeAny (model P0 w) callerA (.call (.ref fa) ⟨[.ref a], []⟩) (fun r t' => r = .ok (.ret (.bool true)) ∧ OldK t.heap t'.heap ∧ t'.os = t.os ∧ AllBare t'.gens) t := by
  have core : ∀ H : Hp, Lone H a → SqL K H a (ns.map V.int) → HOk P0 w H t.heap → (H a ≠ none → K.lookup a = none) →
      codeAny (model P0 w) callerA (.call (.ref fa) ⟨[.ref a], []⟩) (fun r t' => r = .ok (.ret (.bool true)) ∧ OldK t.heap t'.heap ∧ t'.os = t.os ∧ AllBare t'.gens) t := by
    intro H lone hS hok away
    have still : ∀ {b : Addr} {m : Str → Option Value}, t.heap.Ns b m → (hidT t.heap H).Ns b m := by
      rintro b m ⟨o, es, ep, e, d, r⟩
      refine ⟨o, es, ep, hidT_get e ?_, d, r⟩
      rcases lone b with z | ⟨rfl, _⟩
      · exact z
      · rw [at_] at e
        cases e
        cases (show Data.seq vs.toArray _ = Data.dict es ep from d)
    have kin' : K.In (hidT t.heap H) := fun b o e => hidT_get (kin b o e) (by
      rcases lone b with z | ⟨rfl, ob, xs, z⟩
      · exact z
      · rw [away (by rw [z]; simp)] at e
        cases e)
    have nl' : (hidT t.heap H).NoLimit := let ⟨mc, h1, h2⟩ := nl; ⟨mc, still h1, h2⟩
    have e0 : Env0 P0 w K mg (hidT t.heap H) callerA [] t H := ⟨rfl, ⟨kin', still gl, ⟨mb, still bn, bb⟩, nl'⟩, fun b o e => of_hidT e, Nat.le_of_eq (hidT_size _ _), trivial, fun b hb => (nomatch hb), hok, .of_eq gens⟩
    have bt : BindsTo t fd ⟨[.ref a], []⟩ ([x].zip [.ref a]) := by
      have z := bd t [.ref a] kin rfl
      simpa using z
    refine codeAny_mono ((F _ kin' (still gl)).run callerA [] t H ⟨[.ref a], []⟩ [.ref a] [.ref a] _ _ room rfl e0 bt (.cons rfl .nil) (ask H hS)) fun res t' fin => ?_
    match res, fin with
    | .error e, fin => obtain ⟨_, _, _, _, _, _, _, _, _, _, _, _, z⟩ := fin; exact z.elim
    | .ok (.ret u), ⟨v, H', os, bare, un, hok', r', q⟩ =>
      have q' : v = .bl true := q
      subst q'
      obtain rfl : u = Value.bool true := r'
      refine ⟨rfl, OldK.of_keep fun b o e => ?_, os, bare⟩
      rcases lone b with z | ⟨rfl, ob, xs, z⟩
      · exact un.keep b o e z (fun z => nomatch z) (by simp)
      · obtain ⟨e1, _⟩ := hok b _ z
        obtain ⟨e2, _⟩ := hok' b _ (un.frzs b ob _ z)
        rw [e] at e1
        cases e1
        exact e2
    | .ok .next, fin => exact fin.elim
    | .ok .brk, fin => exact fin.elim
    | .ok .cont, fin => exact fin.elim
  have rv := vals_ints are
  cases hk : K.lookup a with
  | some o =>
    have e := kin a o hk
    rw [at_] at e
    cases e
    exact core (fun _ => none) (fun _ => .inl rfl) (.inr ⟨_, vs.toArray, _, hk, rfl, rfl, rfl, by rw [List.size_toArray, are.length]; exact few, by simpa using rv⟩) (fun b u z => by cases (show (none : Option HO) = some u from z)) fun z => absurd rfl z
  | none =>
    let ob : Obj := { cls := .type "list", data := .seq vs.toArray }
    refine core (fun b => if b = a then some (.frz ob (.lst (ns.map V.int))) else none) (fun b => ?_) (.inl (.inr ⟨ob, if_pos rfl⟩)) (fun b u z => ?_) fun _ => hk
    · by_cases hb : b = a
      · exact .inr ⟨hb, _, _, if_pos hb⟩
      · exact .inl (if_neg hb)
    · by_cases hb : b = a
      · subst hb
        cases (if_pos rfl).symm.trans z
        exact ⟨at_, by rw [List.length_map]; exact few, vs, _, rv, at_⟩
      · cases (if_neg hb).symm.trans z
end
/-- the goal that the head of a row leaves -/
theorem walkG {l : PySem.W.OpenLaw} {q : Program} {loose : List Str} {XP : (Str → Option Value) → Heap → Prop} {YP : World → Heap → Prop} {d : DefRec} (P : Pg) (n : Nat) (f : FD) (hf : findF P.fns "law" = some f) (h1 : f.np = 1) (h0 : f.kw = []) (hs : [] ∈ f.sh) (h2 : ∃ x, f.N.take 1 = [x])
    (most : l.most = some 63) (nod : d.params.defaults = []) (nm : d.name = "law") (room : Room (n + 1) callerA)
    (F : ∀ (w : World) (mg : Str → Option Value) (h : Heap), YP w h → h.Ns mainGlobals mg → ∃ K : PySem.W.Frag, K.In h ∧ PFact K w mg ⟨P.fns, P.oth, w.params.followText "set-order"⟩) (T : ∀ b, Told ⟨P.fns, P.oth, b⟩ n) : PySem.W.WalkO q loose XP YP l.row.toRowW d [] (fun f vs => PySem.call f vs) := by
  refine Att.attach_call most nod fun w s₀ t mg mb fa o pm cd doc a vs ns G Y _ _ _ at0 at1 are few gens => ?_
  obtain ⟨K, kin, pf⟩ := F w mg _ Y G.T.g
  obtain ⟨g1, g2⟩ := findF_mem hf
  obtain ⟨fa', fd, qual, e1, e2, e3⟩ := (pf.fns f g1).ex
  rw [nm] at at0
  rw [g2, at0] at e2
  cases e2
  obtain ⟨x, hx⟩ := h2
  have hps : f.ps = [x] := by unfold FD.ps; rw [h1, h0]; exact hx
  have bn := bindsK0 (e3 [] hs) h0 (by rw [hps]; show 1 = f.np + f.kw.length; rw [h1, h0]; rfl)
  rw [hps] at bn
  refine law_g kin G.T.g G.T.b G.T.builtins G.T.nolimit gens at1 are (Nat.le_trans few (by decide)) room (fun base b1 b2 => ?_) bn fun H hS => told_sp (mg := mg) (T (w.params.followText "set-order")) few hS
  have z := fun_ok (Pr0 := l.prog) (w := w) (base := base) pf n "law" f hf fa fd qual e1
  rw [hps, h1, h0] at z
  exact z
end Iv
set_option Elab.async false
set_option linter.all false
set_option maxRecDepth 100000
set_option maxHeartbeats 4000000
/-! Iv16: the module's facts, looked at by a Hook. -/
namespace Iv
open PySem PySem.Spec PyProof.Rows L2
mutual
def datB (K : PySem.W.Frag) : Value → PyData → Bool
  | .none, .none => true
  | .bool a, .bool b => a == b
  | .int a _, .int b => decide (a = b)
  | .str a _, .str b => decide (a = b)
  | .ref a, .tuple ds => match K.lookup a with
    | some ⟨.type c, _, .seq its _, _⟩ => decide (c = "tuple") && (decide (its.size ≤ sizeLine) && datsB K its.toList ds)
    | _ => false
  | .ref a, .list ds => match K.lookup a with
    | some ⟨.type c, none, .seq its _, _⟩ => decide (c = "list") && (decide (its.size ≤ sizeLine) && datsB K its.toList ds)
    | _ => false
  | _, _ => false
def datsB (K : PySem.W.Frag) : List Value → List PyData → Bool
  | [], [] => true
  | u :: us, d :: ds => datB K u d && datsB K us ds
  | _, _ => false
end
mutual
theorem datB_ok {K : PySem.W.Frag} : ∀ {u : Value} (d : PyData), datB K u d = true → ∃ v, RelV v u ∧ ∀ μ H, RP K μ H v d
  | u, .none, h => by cases u <;> simp [datB] at h; exact ⟨.non, rfl, fun _ _ => .non⟩
  | u, .bool b, h => by cases u <;> simp [datB] at h; subst h; exact ⟨.bl _, rfl, fun _ _ => .bl _⟩
  | u, .int b, h => by cases u <;> simp [datB] at h; subst h; exact ⟨.int _, ⟨_, rfl⟩, fun _ _ => .int _⟩
  | u, .str b, h => by cases u <;> simp [datB] at h; subst h; exact ⟨.str _, ⟨_, rfl⟩, fun _ _ => .str _⟩
  | u, .dict b, h => by cases u <;> simp [datB] at h
  | u, .tuple ds, h => by
    cases u <;> simp only [datB, Bool.false_eq_true] at h
    rename_i a
    split at h
    · rename_i c od its n sl e
      simp only [Bool.and_eq_true, decide_eq_true_eq] at h
      obtain ⟨rfl, h2, h3⟩ := h
      obtain ⟨vs, r, q⟩ := datsB_ok ds h3
      exact ⟨.ref a, rfl, fun μ H => .tup (.inr ⟨_, its, n, e, rfl, rfl, h2, r⟩) (q μ H)⟩
    · cases h
  | u, .list ds, h => by
    cases u <;> simp only [datB, Bool.false_eq_true] at h
    rename_i a
    split at h
    · rename_i c its n sl e
      simp only [Bool.and_eq_true, decide_eq_true_eq] at h
      obtain ⟨rfl, h2, h3⟩ := h
      obtain ⟨vs, r, q⟩ := datsB_ok ds h3
      exact ⟨.ref a, rfl, fun μ H => .lst (.inr ⟨_, its, n, e, rfl, rfl, rfl, h2, r⟩) (q μ H)⟩
    · cases h
theorem datsB_ok {K : PySem.W.Frag} : ∀ {us : List Value} (ds : List PyData), datsB K us ds = true → ∃ vs, Vals vs us ∧ ∀ μ H, RPs K μ H vs ds
  | [], [], h => ⟨[], .nil, fun _ _ => .nil⟩
  | u :: us, d :: ds, h => by
    simp only [datsB, Bool.and_eq_true] at h
    obtain ⟨v, r, q⟩ := datB_ok d h.1
    obtain ⟨vs, rs, qs⟩ := datsB_ok ds h.2
    exact ⟨v :: vs, .cons r rs, fun μ H => .cons (q μ H) (qs μ H)⟩
  | [], _ :: _, h => by simp [datsB] at h
  | _ :: _, [], h => by simp [datsB] at h
end
def dflts (kw : List (Str × Option PyData)) : List (Str × PyData) := kw.filterMap fun y => y.2.map fun d => (y.1, d)
def kwB (K : PySem.W.Frag) (kV : Value) (l : List (Str × PyData)) : Bool := l.isEmpty || (match kV with
  | .ref D => l.all fun y => match PySem.W.nsIn K D y.1 with
    | some (some u) => datB K u y.2
    | _ => false
  | _ => false)
def fnB (K : PySem.W.Frag) (f : FD) : Bool := He.eqO (PySem.W.nsIn K mainGlobals f.name) (some (some (.ref (He.ga K f.name)))) && (PySem.W.keepIn K (.ref (He.ga K f.name)) && ((f.sh.all fun ks => f.kw.all fun y => ks.contains y.1 || y.2.isSome) &&
  match K.lookup (He.ga K f.name) with
    | some ⟨_, _, .func fd, _⟩ => PySem.W.codeIn K fd.code f.own && (decide (fd.defaults = .none) && kwB K fd.kwdefaults (dflts f.kw))
    | _ => false))
def dvB (K : PySem.W.Frag) (u : Value) : DV → Bool
  | .d x => datB K u x
  | .fn g => (match u with
    | .ref _ => He.eqO (PySem.W.nsIn K mainGlobals g) (some (some u))
    | _ => false)
def othB (K : PySem.W.Frag) (x : Str) : OV → Bool
  | .cst d => (match PySem.W.nsIn K mainGlobals x with
    | some (some u) => datB K u d
    | _ => false)
  | .cls => He.eqO (PySem.W.nsIn K mainGlobals x) (some (some (.ref (He.ga K x))))
  | .dct kvs => He.eqO (PySem.W.nsIn K mainGlobals x) (some (some (.ref (He.ga K x)))) && kvs.all fun y => match PySem.W.nsIn K (He.ga K x) y.1 with
    | some (some u) => dvB K u y.2
    | _ => false
def chk (P : Pg) (K : PySem.W.Frag) : Bool := (P.fns.all fun f => fnB K f) && ((P.oth.all fun y => othB K y.1 y.2) && bltNames.all fun x => (P.glob x).isSome || He.eqO (PySem.W.nsIn K mainGlobals x) (some none))
def tabs (P : Pg) : List (Str × List Str) := P.oth.filterMap fun y => match y.2 with
  | .dct kvs => some (y.1, kvs.map (·.1))
  | _ => none
def fnVal (f : FD) : He.FnW := some (f.own, f.own, defArgs f.st, .stmts (defBody f.st), defScope f.st, mainGlobals, [], builtinsNs)
abbrev AlI : Type := Bool × List He.FnW × List (Option (List (Option (Str × Int))))
def obsI (P : Pg) (K : PySem.W.Frag) : AlI := (chk P K, P.fns.map fun f => He.fnW K (f.name, none), (tabs P).map fun t => He.dicW K (He.ga K t.1))
def valI (P : Pg) (w : World) : AlI := (true, P.fns.map fnVal, (tabs P).map fun t => some (He.keysIn w.params t.2))
def obsIG (n : Nat) (P : Pg) (g : Addr → Option Obj) : AlI := obsI P (He.frG g (He.asD g n))
def hookI (n : Nat) (P : Pg) : PySem.W.Hook where
  α := AlI
  obs := fun s => obsIG n P s.heap.get?
  val := fun w => valI P w
  says := fun w h => ∃ K : PySem.W.Frag, K.In h ∧ obsI P K = valI P w
  of := fun _ _ e => ⟨_, He.frG_in, e⟩
  keeps := fun _ _ _ ⟨K, hK, c⟩ k => ⟨K, PySem.W.Frag.In.keeps hK k, c⟩
def obI (n : Nat) (P : Pg) (s : PySem.W.SharedT) : AlI := obsIG n P (HandSHeadRun.getT s)
theorem obI_eq (n : Nat) (P : Pg) (s : PySem.W.SharedT) : obI n P s = (hookI n P).obs s.abs := by
  unfold obI
  rw [show HandSHeadRun.getT s = s.abs.heap.get? from funext (HandSHeadRun.getT_eq s)]
  rfl
/-- how a call by these keywords binds: a fact of the text -/
def ShapeOk (f : FD) (ks : List Str) : Prop := ∀ (D : Addr) (kV doc pm : Value) (an : Option Addr) (cdv ct : Value) (us ws mv : List Value), us.length = f.np → ws.length = ks.length → mv.length = (missK ks f.kw).length → ((missK ks f.kw).isEmpty = true ∨ kV = .ref D) →
  KwChain D (((missK ks f.kw).map (·.1)).zip mv) (bindArgs (PySem.W.fnOf f.own f.own (defArgs f.st) (defBody f.st) (defScope f.st) .none kV doc pm an cdv ct) ⟨us, ks.zip ws⟩) (f.ps.zip (us ++ pick (selIx ks f.kw 0) (ws ++ mv)))
def AllF (p : FD → Prop) : List FD → Prop
  | [] => True
  | f :: r => p f ∧ AllF p r
theorem AllF.mem {p : FD → Prop} : ∀ {l : List FD}, AllF p l → ∀ f ∈ l, p f
  | g :: r, h, f, m => by
    rcases List.mem_cons.mp m with rfl | m
    · exact h.1
    · exact AllF.mem h.2 f m
def AllS (p : List Str → Prop) : List (List Str) → Prop
  | [] => True
  | f :: r => p f ∧ AllS p r
theorem AllS.mem {p : List Str → Prop} : ∀ {l : List (List Str)}, AllS p l → ∀ f ∈ l, p f
  | g :: r, h, f, m => by
    rcases List.mem_cons.mp m with rfl | m
    · exact h.1
    · exact AllS.mem h.2 f m
/-- what the text alone tells of a def -/
structure Txt (f : FD) : Prop where
  sc : FnScope f.N f.ps (defScope f.st)
  np : f.np + f.kw.length ≤ f.N.length
  bn : AllS (ShapeOk f) f.sh
section
variable {K : PySem.W.Frag} {w : World} {mg : Str → Option Value} {h : Heap} {P : Pg}
theorem kwB_mv {kV : Value} {D : Addr} (hD : kV = .ref D) : ∀ {l : List (Str × PyData)}, (∀ y ∈ l, ∃ u, PySem.W.nsIn K D y.1 = some (some u) ∧ datB K u y.2 = true) →
    ∃ (mv : List Value) (vs : List V), mv.length = l.length ∧ Vals vs mv ∧ (∀ μ H, RPs K μ H vs (l.map (·.2))) ∧ ∀ q ∈ (l.map (·.1)).zip mv, PySem.W.nsIn K D q.1 = some (some q.2)
  | [], _ => ⟨[], [], rfl, .nil, fun _ _ => .nil, fun q hq => nomatch hq⟩
  | y :: r, c => by
    obtain ⟨mv, vs, l1, l2, l3, l4⟩ := kwB_mv hD (l := r) fun z hz => c z (List.mem_cons_of_mem _ hz)
    obtain ⟨u, e1, e2⟩ := c y List.mem_cons_self
    obtain ⟨v, r1, r2⟩ := datB_ok _ e2
    refine ⟨u :: mv, v :: vs, by simp [l1], .cons r1 l2, fun μ H => .cons (r2 μ H) (l3 μ H), fun q hq => ?_⟩
    rcases List.mem_cons.mp (show q ∈ (y.1, u) :: (r.map (·.1)).zip mv from hq) with rfl | hq
    · exact e1
    · exact l4 q hq
theorem fn_fact {f : FD} (X : K.In h) (G : h.Ns mainGlobals mg) (T : Txt f) (c : fnB K f = true) (e : He.fnW K (f.name, none) = fnVal f) : FFact K mg f := by
  unfold fnB at c
  obtain ⟨c1, c2⟩ := He.ba c
  obtain ⟨c2, c3⟩ := He.ba c2
  obtain ⟨c3, c4⟩ := He.ba c3
  refine ⟨?_, T.sc, T.np⟩
  unfold He.fnW at e
  replace e : (match K.lookup (He.ga K f.name) with
    | some ⟨_, _, .func fd, _⟩ => some (fd.name, fd.qualname, fd.params, fd.body, fd.scope, fd.globals, fd.closure, fd.builtins)
    | _ => none) = fnVal f := e
  cases q : K.lookup (He.ga K f.name) with
  | none => rw [q] at c4; cases c4
  | some o =>
    obtain ⟨oc, od, dt, osl⟩ := o
    rw [q] at c4 e
    cases dt with
    | func fd =>
      obtain ⟨n1, n2, n3, n4, n5, n6, n7, n8, n9, n10, n11, n12, n13, n14, n15⟩ := fd
      have e2 : (some (n1, n2, n3, n4, n5, n6, n7, n15) : He.FnW) = some (f.own, f.own, defArgs f.st, .stmts (defBody f.st), defScope f.st, mainGlobals, [], builtinsNs) := e
      simp only [Option.some.injEq, Prod.mk.injEq] at e2
      obtain ⟨h1, h2, h3, h4, h5, h6, h7, h8⟩ := e2
      subst h1 h2 h3 h4 h5 h6 h7 h8
      obtain ⟨k1, k2⟩ := He.ba c4
      obtain ⟨k2, k3⟩ := He.ba k2
      have k2 := of_decide_eq_true k2
      dsimp only at k2 k3 k1
      subst k2
      refine ⟨He.ga K f.name, _, f.own, ⟨⟨oc, od, n9, n10, n11, n12, n13, n14, osl, rfl, q, k1⟩, c2⟩, PySem.W.mg_of X G (He.eqO_ok c1), fun ks hks => ?_⟩
      have cov := List.all_eq_true.mp (List.all_eq_true.mp c3 ks hks)
      have sub : ∀ y ∈ missK ks f.kw, y ∈ dflts f.kw := fun y hy => by
        unfold missK at hy
        obtain ⟨z, hz, rfl⟩ := List.mem_map.mp hy
        obtain ⟨hz1, hz2⟩ := List.mem_filter.mp hz
        have := cov z hz1
        have hz3 : ks.contains z.1 = false := by simpa using hz2
        rw [hz3, Bool.false_or] at this
        obtain ⟨zx, zd⟩ := z
        cases zd with
        | none => cases this
        | some d => exact List.mem_filterMap.mpr ⟨_, hz1, rfl⟩
      have sh := AllS.mem T.bn ks hks
      by_cases hm : missK ks f.kw = []
      · refine ⟨[], [], .nil, by show ∀ μ H, RPs K μ H [] ((missK ks f.kw).map (·.2)); rw [hm]; exact fun _ _ => .nil, fun s us ws Xs l1 l2 => BindsTo.of_looks fun M => ?_⟩
        exact KwChain.looks (D := 0) Xs (fun q hq => by rw [hm] at hq; cases hq) (sh 0 n9 n10 n11 n12 n13 n14 us ws [] l1 l2 (by rw [hm]; rfl) (.inl (by rw [hm]; rfl)))
      · unfold kwB at k3
        have ne : (dflts f.kw).isEmpty = false := by
          cases q2 : dflts f.kw with
          | nil =>
            obtain ⟨y, hy⟩ := List.exists_mem_of_ne_nil _ hm
            have := sub y hy
            rw [q2] at this
            cases this
          | cons _ _ => rfl
        rw [ne, Bool.false_or] at k3
        cases n9 with
        | ref D =>
          have all := List.all_eq_true.mp (show ((dflts f.kw).all fun y => match PySem.W.nsIn K D y.1 with
            | some (some u) => datB K u y.2
            | _ => false) = true from k3)
          obtain ⟨mv, vs, m1, m2, m3, m4⟩ := kwB_mv (K := K) (D := D) rfl (l := missK ks f.kw) fun y hy => by
            have z := all y (sub y hy)
            split at z
            · rename_i u e; exact ⟨u, e, z⟩
            · cases z
          exact ⟨mv, vs, m2, m3, fun s us ws Xs l1 l2 => BindsTo.of_looks fun M => KwChain.looks Xs m4 (sh D _ n10 n11 n12 n13 n14 us ws mv l1 l2 m1 (.inr rfl))⟩
        | _ => cases k3
    | _ => cases c4
theorem lookup_mem {α : Type} {x : Str} {v : α} : ∀ {l : List (Str × α)}, l.lookup x = some v → (x, v) ∈ l
  | [], h => by cases h
  | (y, u) :: r, h => by
    rw [List.lookup_cons] at h
    split at h
    · rename_i e; cases h; rw [beq_iff_eq] at e; subst e; exact List.mem_cons_self
    · exact List.mem_cons_of_mem _ (lookup_mem h)
theorem key_some {α : Type} : ∀ {kvs : List (Str × α)} {q : Str × α}, q ∈ kvs → (kvs.lookup q.1).isSome = true
  | (a1, a2) :: r, q, hq => by
    rw [List.lookup_cons]
    split
    · rfl
    · rename_i ne
      rcases List.mem_cons.mp hq with rfl | hq
      · simp at ne
      · exact key_some hq
theorem find_keys {Pm : Params} {z : Str} : ∀ {l : List DictEntry} {ks : List Str}, l.map He.keyOf = He.keysIn Pm ks → z ∉ ks → l.find? (·.key.isStr z) = none ∧ l.any (·.refKey) = false
  | [], _, _, _ => ⟨rfl, rfl⟩
  | e :: r, [], h, _ => by cases h
  | e :: r, k :: ks, h, hz => by
    have h1 : He.keyOf e :: r.map He.keyOf = some (k, PyData.keyHash Pm k) :: He.keysIn Pm ks := h
    injection h1 with h2 h3
    obtain ⟨i1, i2⟩ := find_keys h3 fun m => hz (List.mem_cons_of_mem _ m)
    unfold He.keyOf at h2
    split at h2
    · rename_i x t q
      obtain ⟨h5, _⟩ := Prod.mk.inj (Option.some.inj h2)
      have nz : e.key.isStr z = false := by
        rw [q]
        cases y : Value.isStr (Value.str x t) z with
        | false => rfl
        | true =>
          have hxz : x = z := by simpa [Value.isStr] using y
          exact absurd (hxz ▸ h5 ▸ List.mem_cons_self) hz
      have nr : e.refKey = false := by
        unfold DictEntry.refKey
        rw [q]
      refine ⟨by rw [List.find?_cons, nz]; exact i1, by rw [List.any_cons, nr, i2]; rfl⟩
    · cases h2
theorem says_fact (X : K.In h) (G : h.Ns mainGlobals mg) (T : AllF Txt P.fns) (e : obsI P K = valI P w) : PFact K w mg ⟨P.fns, P.oth, w.params.followText "set-order"⟩ := by
  have c : chk P K = true := congrArg (fun z : AlI => z.1) e
  have e2 : P.fns.map (fun f => He.fnW K (f.name, none)) = P.fns.map fnVal := congrArg (fun z : AlI => z.2.1) e
  have e3 : (tabs P).map (fun t => He.dicW K (He.ga K t.1)) = (tabs P).map fun t => some (He.keysIn w.params t.2) := congrArg (fun z : AlI => z.2.2) e
  obtain ⟨c1, c2⟩ := He.ba c
  obtain ⟨c2, c3⟩ := He.ba c2
  have c1 := List.all_eq_true.mp c1
  have c2 := List.all_eq_true.mp c2
  have c3 := List.all_eq_true.mp c3
  refine ⟨fun f hf => fn_fact X G (T.mem f hf) (c1 f hf) (List.map_inj_left.mp e2 f hf), fun x hx => ?_, fun x d hx => ?_, fun x kvs hx => ?_, fun x hx hb => ?_, rfl⟩
  · exact ⟨_, PySem.W.mg_of X G (He.eqO_ok (c2 _ (lookup_mem hx)))⟩
  · have z := c2 _ (lookup_mem hx)
    dsimp only [othB] at z
    split at z
    · rename_i u hu
      obtain ⟨v, r1, r2⟩ := datB_ok _ z
      exact ⟨u, v, PySem.W.mg_of X G hu, r1, r2⟩
    · cases z
  · have z := c2 _ (lookup_mem hx)
    obtain ⟨z1, z2⟩ := He.ba z
    have z2 := List.all_eq_true.mp z2
    have ht : (x, kvs.map (·.1)) ∈ tabs P := List.mem_filterMap.mpr ⟨_, lookup_mem hx, rfl⟩
    have dw := List.map_inj_left.mp e3 _ ht
    obtain ⟨es, n, kd⟩ := He.dicW_ok dw
    have ke : es.toList.map He.keyOf = He.keysIn w.params (kvs.map (·.1)) := by
      have dw' : He.dicW K (He.ga K x) = some (He.keysIn w.params (kvs.map (·.1))) := dw
      unfold He.dicW at dw'
      rw [kd.at_] at dw'
      dsimp only at dw'
      split at dw'
      · exact Option.some.inj dw'
      · cases dw'
    refine ⟨_, es, n, PySem.W.mg_of X G (He.eqO_ok z1), kd, fun y dv hy => ?_, fun y hy => ?_, ke⟩
    · have z3 := z2 _ (lookup_mem hy)
      dsimp only at z3
      split at z3
      · rename_i u hu
        cases dv with
        | d d =>
          obtain ⟨v, r1, r2⟩ := datB_ok _ z3
          exact ⟨u, v, hu, r1, fun μ H => .d (r2 μ H)⟩
        | fn g =>
          cases u <;> simp only [dvB, Bool.false_eq_true] at z3
          exact ⟨_, .ref _, hu, rfl, fun μ H => .gl (PySem.W.mg_of X G (He.eqO_ok z3))⟩
      · cases z3
    · have dw' : He.dicW K (He.ga K x) = some (He.keysIn w.params (kvs.map (·.1))) := dw
      unfold He.dicW at dw'
      rw [kd.at_] at dw'
      dsimp only at dw'
      split at dw'
      · obtain ⟨f1, f2⟩ := find_keys (z := y) (Option.some.inj dw') fun m => by
          obtain ⟨q, hq, e5⟩ := List.mem_map.mp m
          have := key_some hq
          rw [e5, hy] at this
          cases this
        unfold PySem.W.nsIn
        rw [kd.at_]
        dsimp only
        rw [f1, f2]
        rfl
      · cases dw'
  · have z := c3 x hb
    rw [show P.glob x = none from hx] at z
    exact PySem.W.mg_none_of X G (He.eqO_ok (by simpa using z))
end
end Iv
set_option Elab.async false
set_option linter.all false
set_option maxRecDepth 100000
set_option maxHeartbeats 4000000
/-! Lk1: what is computed, by what must hold behind it. -/
namespace Iv
open PySem
def Wp {α : Type} (m : M α) (st : Sto) (Q : α → Sto → Prop) : Prop := match m st with
  | .ok a st' => Q a st'
  | _ => False
def SWp (s : S) (ρ : Env) (st : Sto) (N : Env → Sto → Prop) (R : Vl → Sto → Prop) : Prop := match s ρ st with
  | .nx ρ' st' => N ρ' st'
  | .rt v st' => R v st'
  | _ => False
section
variable {α β : Type} {st : Sto} {ρ : Env} {N : Env → Sto → Prop} {R : Vl → Sto → Prop}
theorem wp_bind {m : M α} {f : α → M β} {Q : β → Sto → Prop} : Wp (M.bind m f) st Q = Wp m st fun a st' => Wp (f a) st' Q := by
  unfold Wp M.bind
  cases m st <;> rfl
theorem wp_ret {a : α} {Q : α → Sto → Prop} : Wp (ret a) st Q = Q a st := rfl
theorem wp_nope {Q : α → Sto → Prop} : Wp (nope : M α) st Q = False := rfl
theorem Wp.mono {m : M α} {Q Q' : α → Sto → Prop} (h : Wp m st Q) (k : ∀ a st', Q a st' → Q' a st') : Wp m st Q' := by
  unfold Wp at h ⊢
  cases e : m st with
  | ok a st' => rw [e] at h; exact k a st' h
  | ex x st' => rw [e] at h; exact h
  | bad => rw [e] at h; exact h
theorem wp_iff {m : M α} {Q : α → Sto → Prop} : Wp m st Q ↔ ∃ a st', m st = .ok a st' ∧ Q a st' := by
  unfold Wp
  constructor
  · intro h
    cases e : m st with
    | ok a st' => rw [e] at h; exact ⟨a, st', rfl, h⟩
    | ex x st' => rw [e] at h; exact h.elim
    | bad => rw [e] at h; exact h.elim
  · rintro ⟨a, st', e, h⟩
    rw [e]
    exact h
theorem wp_of_eq {m : M α} {Q : α → Sto → Prop} {a : α} {st' : Sto} (e : m st = .ok a st') : Wp m st Q = Q a st' := by
  unfold Wp
  rw [e]
theorem wp_lift2 {p : P2} {a b : Vl} {Q : Vl → Sto → Prop} {v : Vl} {st' : Sto} (e : p a b st = some (v, st')) : Wp (lift2 p a b) st Q = Q v st' := by
  unfold Wp lift2
  rw [e]
theorem wp_lift1 {p : P1} {a : Vl} {Q : Vl → Sto → Prop} {v : Vl} {st' : Sto} (e : p a st = some (v, st')) : Wp (lift1 p a) st Q = Q v st' := by
  unfold Wp lift1
  rw [e]
theorem wp_liftP {p : Pr} {as : List Vl} {Q : Vl → Sto → Prop} {v : Vl} {st' : Sto} (e : p as st = some (v, st')) : Wp (liftP p as) st Q = Q v st' := by
  unfold Wp liftP
  rw [e]
/-! ### statements -/
theorem sw_seq {a b : S} : SWp (seqS a b) ρ st N R = SWp a ρ st (fun ρ' st' => SWp b ρ' st' N R) R := by
  unfold SWp seqS
  cases a ρ st <;> rfl
theorem sw_next : SWp nextS ρ st N R = N ρ st := rfl
theorem sw_bind {m : Env → M α} {k : α → S} : SWp (bindS m k) ρ st N R = Wp (m ρ) st fun a st' => SWp (k a) ρ st' N R := by
  unfold SWp bindS Wp
  cases m ρ st <;> rfl
theorem sw_set {i : Nat} {f : Env → M Vl} : SWp (setS i f) ρ st N R = Wp (f ρ) st fun v st' => N (ρ.set i (some v)) st' := sw_bind
theorem sw_ret {f : Env → M Vl} : SWp (retS f) ρ st N R = Wp (f ρ) st R := sw_bind
theorem sw_retN : SWp retN ρ st N R = R (.d .none) st := rfl
theorem sw_drop {f : Env → M Vl} : SWp (dropS f) ρ st N R = Wp (f ρ) st fun _ st' => N ρ st' := sw_bind
theorem sw_if {c : Env → M Bool} {a b : S} : SWp (ifS c a b) ρ st N R = Wp (c ρ) st fun k st' => if k = true then SWp a ρ st' N R else SWp b ρ st' N R := by
  unfold ifS
  rw [sw_bind]
  congr 1
  funext k st'
  cases k <;> rfl
theorem sw_sub {f o i : Env → M Vl} : SWp (subS f o i) ρ st N R = Wp (f ρ) st fun v s1 => Wp (frzM v) s1 fun x s2 => Wp (o ρ) s2 fun ov s3 => Wp (i ρ) s3 fun iv s4 => Wp (stM ov iv x) s4 fun _ s5 => N ρ s5 := by
  unfold subS
  simp only [sw_bind, sw_next]
theorem SWp.mono {s : S} {N' : Env → Sto → Prop} {R' : Vl → Sto → Prop} (h : SWp s ρ st N R) (k1 : ∀ ρ' st', N ρ' st' → N' ρ' st') (k2 : ∀ v st', R v st' → R' v st') : SWp s ρ st N' R' := by
  unfold SWp at h ⊢
  cases e : s ρ st <;> rw [e] at h <;> first | exact k1 _ _ h | exact k2 _ _ h | exact h
/-! ### calls -/
def Back (n0 : Nat) (v : Vl) (st : Sto) (Q : Vl → Sto → Prop) : Prop := Wp (backM n0 v) st Q
theorem back_d {n0 : Nat} {x : PyData} {Q : Vl → Sto → Prop} : Back n0 (.d x) st Q = Q (.d x) (st.take n0) := rfl
theorem wp_runB {b : S} {n : Nat} {as : List Vl} {Q : Vl → Sto → Prop} (h : SWp b (env0 n as) st (fun _ st' => Back st.length (.d .none) st' Q) (fun v st' => Back st.length v st' Q)) : Wp (runB b n as) st Q := by
  unfold SWp at h
  show Wp (fun st => _) st Q
  unfold Wp
  dsimp only [runB]
  cases e : b (env0 n as) st <;> rw [e] at h <;> first | exact h | exact False.elim h
theorem wp_call {P : Pg} {n : Nat} {x : Str} {f : FD} {b : S} {as : List Vl} {Q : Vl → Sto → Prop} (hf : findF P.fns x = some f) (hb : bodyF P (callN P n) f = some b) (h : SWp b (env0 f.N.length as) st (fun _ st' => Back st.length (.d .none) st' Q) (fun v st' => Back st.length v st' Q)) :
    Wp (callN P (n + 1) x as) st Q := by
  simp only [callN, hf, hb]
  exact wp_runB h
theorem wp_callF {k : Nat} {c : List Vl → M Vl} {f : Env → M (List Vl)} {Q : Vl → Sto → Prop} : Wp (callF k c f ρ) st Q = Wp (f ρ) st fun as st' => Wp (guardN k c as) st' Q := wp_bind
theorem wp_guard {k : Nat} {c : List Vl → M Vl} {as : List Vl} {Q : Vl → Sto → Prop} (h : as.length = k) : Wp (guardN k c as) st Q = Wp (c as) st Q := by
  unfold guardN
  rw [if_pos h]
/-! ### expressions -/
theorem wp_cM {d : PyData} {Q : Vl → Sto → Prop} : Wp (cM d ρ) st Q = Q (.d d) st := rfl
theorem wp_nil {Q : List Vl → Sto → Prop} : Wp (nilM ρ) st Q = Q [] st := rfl
theorem wp_cons {f : Env → M Vl} {g : Env → M (List Vl)} {Q : List Vl → Sto → Prop} : Wp (consM f g ρ) st Q = Wp (f ρ) st fun a s1 => Wp (g ρ) s1 fun as s2 => Q (a :: as) s2 := by
  unfold consM
  simp only [wp_bind, wp_ret]
theorem wp_var {i : Nat} {v : Vl} {Q : Vl → Sto → Prop} (h : ρ[i]? = some (some v)) : Wp (varM i ρ) st Q = Q v st := by
  unfold varM Wp
  rw [h]
/-- of a primitive -/
def OptQ {β : Type} (o : Option (β × Sto)) (Q : β → Sto → Prop) : Prop := match o with
  | some r => Q r.1 r.2
  | none => False
theorem oq_some {β : Type} {b : β} {s' : Sto} {Q : β → Sto → Prop} : OptQ (some (b, s')) Q = Q b s' := rfl
theorem oq_none {β : Type} {Q : β → Sto → Prop} : OptQ none Q = False := rfl
theorem oq_ite {β : Type} {c : Prop} [Decidable c] {o : Option (β × Sto)} {Q : β → Sto → Prop} : OptQ (if c then o else none) Q = (c ∧ OptQ o Q) := by
  by_cases h : c
  · rw [if_pos h]; simp [h]
  · rw [if_neg h]; simp [h, oq_none]
theorem wp_l2 {p : P2} {a b : Vl} {Q : Vl → Sto → Prop} : Wp (lift2 p a b) st Q = OptQ (p a b st) Q := by
  unfold Wp lift2 OptQ
  cases p a b st with
  | none => rfl
  | some r => rfl
theorem wp_l1 {p : P1} {a : Vl} {Q : Vl → Sto → Prop} : Wp (lift1 p a) st Q = OptQ (p a st) Q := by
  unfold Wp lift1 OptQ
  cases p a st with
  | none => rfl
  | some r => rfl
theorem wp_lP {p : Pr} {as : List Vl} {Q : Vl → Sto → Prop} : Wp (liftP p as) st Q = OptQ (p as st) Q := by
  unfold Wp liftP OptQ
  cases p as st with
  | none => rfl
  | some r => rfl
theorem wp_bin {p : P2} {f g : Env → M Vl} {Q : Vl → Sto → Prop} : Wp (bin p f g ρ) st Q = Wp (f ρ) st fun a s1 => Wp (g ρ) s1 fun b s2 => OptQ (p a b s2) Q := by
  unfold bin
  simp only [wp_bind, wp_l2]
theorem wp_un {p : P1} {f : Env → M Vl} {Q : Vl → Sto → Prop} : Wp (un p f ρ) st Q = Wp (f ρ) st fun a s1 => OptQ (p a s1) Q := by
  unfold un
  simp only [wp_bind, wp_l1]
theorem wp_callP {p : Pr} {f : Env → M (List Vl)} {Q : Vl → Sto → Prop} : Wp (callP p f ρ) st Q = Wp (f ρ) st fun as s1 => OptQ (p as s1) Q := by
  unfold callP
  simp only [wp_bind, wp_lP]
theorem wp_bM {f : Env → M Vl} {Q : Bool → Sto → Prop} : Wp (bM f ρ) st Q = Wp (f ρ) st fun a s1 => Wp (asB a) s1 Q := wp_bind
theorem wp_asB {b : Bool} {Q : Bool → Sto → Prop} : Wp (asB (.d (.bool b))) st Q = Q b st := rfl
theorem wp_notM {f : Env → M Bool} {Q : Bool → Sto → Prop} : Wp (notM f ρ) st Q = Wp (f ρ) st fun a s1 => Q (!a) s1 := wp_bind
theorem wp_ifb {b : Bool} {m m' : M α} {Q : α → Sto → Prop} : Wp (if b = true then m else m') st Q = if b = true then Wp m st Q else Wp m' st Q := by cases b <;> rfl
theorem wp_orM {f g : Env → M Bool} {Q : Bool → Sto → Prop} : Wp (orM f g ρ) st Q = Wp (f ρ) st fun b s1 => if b = true then Q true s1 else Wp (g ρ) s1 Q := by
  unfold orM
  simp only [wp_bind, wp_ifb, wp_ret]
theorem wp_andM {f g : Env → M Bool} {Q : Bool → Sto → Prop} : Wp (andM f g ρ) st Q = Wp (f ρ) st fun b s1 => if b = true then Wp (g ρ) s1 Q else Q false s1 := by
  unfold andM
  simp only [wp_bind, wp_ifb, wp_ret]
theorem wp_tst {f : Env → M Vl} {Q : Bool → Sto → Prop} : Wp (tst f ρ) st Q = Wp (f ρ) st fun a s1 => Wp (truM a) s1 Q := wp_bind
theorem wp_trub {b : Bool} {Q : Bool → Sto → Prop} : Wp (truM (.d (.bool b))) st Q = Q b st := rfl
theorem wp_andV {f g : Env → M Vl} {Q : Vl → Sto → Prop} : Wp (andV f g ρ) st Q = Wp (f ρ) st fun a s1 => Wp (truM a) s1 fun b s2 => if b = true then Wp (g ρ) s2 Q else Q a s2 := by
  unfold andV
  simp only [wp_bind, wp_ifb, wp_ret]
theorem wp_orV {f g : Env → M Vl} {Q : Vl → Sto → Prop} : Wp (orV f g ρ) st Q = Wp (f ρ) st fun a s1 => Wp (truM a) s1 fun b s2 => if b = true then Q a s2 else Wp (g ρ) s2 Q := by
  unfold orV
  simp only [wp_bind, wp_ifb, wp_ret]
theorem wp_notV {f : Env → M Vl} {Q : Vl → Sto → Prop} : Wp (notV f ρ) st Q = Wp (f ρ) st fun a s1 => Wp (truM a) s1 fun b s2 => Q (.d (.bool (!b))) s2 := by
  unfold notV
  simp only [wp_bind, wp_ret]
theorem wp_ifV {c : Env → M Bool} {f g : Env → M Vl} {Q : Vl → Sto → Prop} : Wp (ifV c f g ρ) st Q = Wp (c ρ) st fun b s1 => if b = true then Wp (f ρ) s1 Q else Wp (g ρ) s1 Q := by
  unfold ifV
  simp only [wp_bind, wp_ifb]
theorem wp_chain {p q : P2} {f g h : Env → M Vl} {Q : Vl → Sto → Prop} : Wp (chain p q f g h ρ) st Q = Wp (f ρ) st fun a s1 => Wp (g ρ) s1 fun b s2 => OptQ (p a b s2) fun r s3 => Wp (asB r) s3 fun k s4 => if k = true then Wp (h ρ) s4 fun c s5 => OptQ (q b c s5) Q else Q (.d (.bool false)) s4 := by
  unfold chain
  simp only [wp_bind, wp_ifb, wp_l2, wp_ret]
theorem wp_frzD {d : PyData} {Q : PyData → Sto → Prop} : Wp (frzM (.d d)) st Q = Q d st := rfl
theorem wp_ref {r : Nat} {k : Int} {x : PyData} {xs : List PyData} {j : Nat} {Q : Unit → Sto → Prop} (h : st[r]? = some (.lst xs)) (hj : L2.ixN xs.length k = some j) : Wp (stM (.ref r) (.d (.int k)) x) st Q = Q () (st.set r (.lst (xs.set j x))) := by
  unfold Wp stM
  simp only [h, hj]
theorem ix_ref {r : Nat} {k : Int} {xs : List PyData} {d : PyData} (h : st[r]? = some (.lst xs)) (hd : L2.atI xs k = some d) : pIxA2 (.ref r) (.d (.int k)) st = some (.d d, st) := by
  unfold pIxA2
  simp only [asK, h, pIx2, asQ, asT, asL, Option.none_or, Option.bind_some, hd, Option.map_some]
end
end Iv
set_option Elab.async false
set_option linter.all false
set_option maxRecDepth 100000
set_option maxHeartbeats 4000000
/-! Lk2: the draws that all laws make. -/
namespace Iv
open PySem
abbrev kI (i : Int) : Env → M Vl := cM (.int i)
/-- _law_take's body -/
def takeB : S :=
  seqS (ifS (bM (bin (cmpP .Gt) (bin pIxA2 (varM 0) (kI 0)) (kI 0)))
    (seqS (setS 2 (bin pMod2 (bin pIxA2 (varM 0) (kI 0)) (varM 1)))
      (seqS (subS (bin pFdiv2 (bin pIxA2 (varM 0) (kI 0)) (varM 1)) (varM 0) (kI 0)) (seqS (retS (varM 2)) nextS))) nextS)
    (seqS (subS (bin pAdd2 (bin pIxA2 (varM 0) (kI 2)) (kI 1)) (varM 0) (kI 2))
      (seqS (setS 3 (bin pMod2 (bin pPow2 (bin pAdd2 (bin pIxA2 (varM 0) (kI 1)) (bin pMulA2 (kI 104683) (bin pIxA2 (varM 0) (kI 2)))) (kI 3)) (kI 2305843009213693921)))
        (seqS (setS 4 (bin pMod2 (bin pPow2 (bin pAdd2 (bin pAdd2 (varM 3) (bin pMod2 (bin pIxA2 (varM 0) (kI 1)) (kI 65521))) (bin pMulA2 (kI 37) (bin pIxA2 (varM 0) (kI 2)))) (kI 5)) (kI 2305843009213693907)))
          (seqS (retS (bin pMod2 (bin pFdiv2 (varM 4) (kI 1024)) (varM 1))) nextS))))
def potB : S :=
  seqS (setS 2 (kI 0))
    (seqS (ifS (bM (bin (cmpP .Lt) (varM 1) (callP (l1 pLenA1) (consM (varM 0) nilM))))
      (seqS (setS 2 (bin pMod2 (callP pAbs (consM (bin pIxA2 (varM 0) (varM 1)) nilM)) (bin pPow2 (bin pPow2 (kI 10) (kI 60)) (kI 10)))) nextS) nextS)
      (seqS (setS 3 (bin pMod2 (bin pPow2 (bin pAdd2 (bin pAdd2 (bin pMod2 (varM 2) (kI 2147483587)) (bin pMulA2 (kI 6007) (varM 1))) (kI 1)) (kI 5)) (kI 2305843009213693951)))
        (seqS (retS (lstC (consM (bin pMulA2 (varM 2) (callP pInt (consM (bin (cmpP .GtE) (varM 2) (bin pPow2 (kI 10) (kI 18))) nilM))) (consM (varM 3) (consM (kI 0) nilM))))) nextS)))
/-- the pot: what is left of the cell, its mix, how many were drawn -/
def Pot (B : Nat) (p : List PyData) : Prop := ∃ a b k : Int, p = [.int a, .int b, .int k] ∧ 0 ≤ a ∧ 0 ≤ b ∧ b < 2305843009213693951 ∧ 0 ≤ k ∧ k ≤ B
theorem Pot.mono {B B' : Nat} {p : List PyData} (h : Pot B p) (l : B ≤ B') : Pot B' p := by
  obtain ⟨a, b, k, e, h1, h2, h3, h4, h5⟩ := h
  exact ⟨a, b, k, e, h1, h2, h3, h4, by omega⟩
theorem log2_le {n m : Nat} (h : n < 2 ^ m) (hm : 0 < m) : n.log2 < m := by
  by_cases h0 : n = 0
  · subst h0; simpa using hm
  · exact (Nat.log2_lt h0).mpr h
theorem mulOk_of {i j : Int} {m n : Nat} (h1 : i.natAbs < 2 ^ m) (h2 : j.natAbs < 2 ^ n) (hm : 0 < m) (hn : 0 < n) (h : m + n ≤ 1000000) : mulOk i j = true := by
  unfold mulOk
  have := log2_le h1 hm
  have := log2_le h2 hn
  exact decide_eq_true (by omega)
theorem getSet {st : Sto} {r : Nat} {c c' : Cell} (h : st[r]? = some c) : (st.set r c')[r]? = some c' := by
  have := (List.getElem?_eq_some_iff.mp h).1
  rw [List.getElem?_set_self this]
theorem takeSet {st : Sto} {r : Nat} {c : Cell} : (st.set r c).take st.length = st.set r c := List.take_of_length_le (by simp)
theorem bits_le {i : Int} {m : Nat} (h0 : 0 ≤ i) (h : i < 2 ^ m) (hm : 0 < m) : (Builtin.Int.intBits i : Int) ≤ m := by
  unfold Builtin.Int.intBits
  split
  · omega
  · have h1 : i.natAbs < 2 ^ m := by
      have : ((i.natAbs : Nat) : Int) = i := Int.natAbs_of_nonneg h0
      have h2 : ((i.natAbs : Nat) : Int) < ((2 ^ m : Nat) : Int) := by rw [this]; simpa using h
      exact_mod_cast h2
    have := log2_le h1 hm
    omega
theorem natAbs_lt {i : Int} {m : Nat} (h0 : 0 ≤ i) (h : i < 2 ^ m) : i.natAbs < 2 ^ m := by
  have : ((i.natAbs : Nat) : Int) = i := Int.natAbs_of_nonneg h0
  have h2 : ((i.natAbs : Nat) : Int) < ((2 ^ m : Nat) : Int) := by rw [this]; simpa using h
  exact_mod_cast h2
theorem at0 {a b c : PyData} : L2.atI [a, b, c] 0 = some a := rfl
theorem at1 {a b c : PyData} : L2.atI [a, b, c] 1 = some b := rfl
theorem at2 {a b c : PyData} : L2.atI [a, b, c] 2 = some c := rfl
theorem oq_pow {i j : Int} {st : Sto} {Q : Vl → Sto → Prop} : OptQ (pPow2 (.d (.int i)) (.d (.int j)) st) Q = ((0 ≤ j ∧ (Builtin.Int.intBits i : Int) * j ≤ 2 ^ 27) ∧ Q (.d (.int (i ^ j.toNat))) st) := by
  show OptQ (if _ then _ else _) Q = _
  rw [oq_ite]; rfl
theorem oq_mod {i j : Int} {st : Sto} {Q : Vl → Sto → Prop} : OptQ (pMod2 (.d (.int i)) (.d (.int j)) st) Q = (0 < j ∧ Q (.d (.int (i % j))) st) := by
  show OptQ (if _ then _ else _) Q = _
  rw [oq_ite]; rfl
theorem oq_fdiv {i j : Int} {st : Sto} {Q : Vl → Sto → Prop} : OptQ (pFdiv2 (.d (.int i)) (.d (.int j)) st) Q = ((0 < j ∧ j.natAbs.log2 < 9000) ∧ Q (.d (.int (i / j))) st) := by
  show OptQ (if _ then _ else _) Q = _
  rw [oq_ite]; rfl
theorem oq_mul {i j : Int} {st : Sto} {Q : Vl → Sto → Prop} : OptQ (pMulA2 (.d (.int i)) (.d (.int j)) st) Q = (mulOk i j = true ∧ Q (.d (.int (i * j))) st) := by
  show OptQ (if _ then _ else _) Q = _
  rw [oq_ite]; rfl
theorem oq_add {i j : Int} {st : Sto} {Q : Vl → Sto → Prop} : OptQ (pAdd2 (.d (.int i)) (.d (.int j)) st) Q = Q (.d (.int (i + j))) st := rfl
theorem oq_sub {i j : Int} {st : Sto} {Q : Vl → Sto → Prop} : OptQ (pSub2 (.d (.int i)) (.d (.int j)) st) Q = Q (.d (.int (i - j))) st := rfl
theorem oq_cmp {p : Int → Int → Bool} {i j : Int} {st : Sto} {Q : Vl → Sto → Prop} : OptQ (pCmp2 p (.d (.int i)) (.d (.int j)) st) Q = Q (.d (.bool (p i j))) st := rfl
theorem oq_ix {r : Nat} {k : Int} {st : Sto} {xs : List PyData} {d : PyData} {Q : Vl → Sto → Prop} (h : st[r]? = some (.lst xs)) (hd : L2.atI xs k = some d) : OptQ (pIxA2 (.ref r) (.d (.int k)) st) Q = Q (.d d) st := by
  rw [ix_ref h hd]; rfl
/-- _law_take(pot, many) -/
theorem take_run {r : Nat} {st : Sto} {p : List PyData} {B : Nat} {m : Int} {Q : Vl → Sto → Prop} (hr : st[r]? = some (.lst p)) (hp : Pot B p) (hB : B ≤ 2 ^ 100) (hm : 0 < m) (hm2 : m < 2 ^ 1000)
    (h : ∀ d p', 0 ≤ d → d < m → Pot (B + 1) p' → Q (.d (.int d)) (st.set r (.lst p'))) :
    SWp takeB (env0 5 [.ref r, .d (.int m)]) st (fun _ st' => Back st.length (.d .none) st' Q) (fun v st' => Back st.length v st' Q) := by
  obtain ⟨a, b, k, rfl, ha, hb, hb2, hk, hk2⟩ := hp
  have e0 : env0 5 [.ref r, .d (.int m)] = [some (.ref r), some (.d (.int m)), none, none, none] := rfl
  have hB' : ((B : Nat) : Int) ≤ 2 ^ 100 := by exact_mod_cast hB
  have hm9 : m.natAbs.log2 < 9000 := by
    have := log2_le (natAbs_lt (Int.le_of_lt hm) hm2) (by decide)
    omega
  rw [e0]
  unfold takeB
  rw [sw_seq, sw_if, wp_bM, wp_bin, wp_bin, wp_var (v := .ref r) rfl, wp_cM, oq_ix hr at0, wp_cM]
  show (if decide (0 < a) = true then _ else _)
  by_cases h0 : 0 < a
  · rw [if_pos (decide_eq_true h0), sw_seq, sw_set, wp_bin, wp_bin, wp_var (v := .ref r) rfl, wp_cM, oq_ix hr at0, wp_var (v := .d (.int m)) rfl, oq_mod]
    refine ⟨hm, ?_⟩
    rw [sw_seq, sw_sub, wp_bin, wp_bin, wp_var (v := .ref r) rfl, wp_cM, oq_ix hr at0, wp_var (v := .d (.int m)) rfl, oq_fdiv]
    refine ⟨⟨hm, hm9⟩, ?_⟩
    rw [wp_frzD, wp_var (v := .ref r) rfl, wp_cM, wp_ref (j := 0) hr rfl, sw_seq, sw_ret, wp_var (v := .d (.int (a % m))) rfl, back_d, takeSet]
    refine h _ _ (Int.emod_nonneg _ (by omega)) (Int.emod_lt_of_pos _ hm) ⟨a / m, b, k, rfl, Int.ediv_nonneg ha (by omega), hb, hb2, hk, by omega⟩
  · rw [if_neg (by simpa using h0), sw_next, sw_seq, sw_sub, wp_bin, wp_bin, wp_var (v := .ref r) rfl, wp_cM, oq_ix hr at2, wp_cM, oq_add, wp_frzD, wp_var (v := .ref r) rfl, wp_cM, wp_ref (j := 2) hr rfl]
    have hr' : (st.set r (.lst [.int a, .int b, .int (k + 1)]))[r]? = some (.lst [.int a, .int b, .int (k + 1)]) := getSet hr
    show SWp _ _ (st.set r (.lst [.int a, .int b, .int (k + 1)])) _ _
    have k1 : k + 1 < 2 ^ 101 := by omega
    have mk1 : mulOk 104683 (k + 1) = true := mulOk_of (m := 17) (n := 101) (by decide) (natAbs_lt (by omega) k1) (by decide) (by decide) (by decide)
    have mk2 : mulOk 37 (k + 1) = true := mulOk_of (m := 17) (n := 101) (by decide) (natAbs_lt (by omega) k1) (by decide) (by decide) (by decide)
    rw [sw_seq, sw_set, wp_bin, wp_bin, wp_bin, wp_bin, wp_var (v := .ref r) rfl, wp_cM, oq_ix hr' at1, wp_bin, wp_cM, wp_bin, wp_var (v := .ref r) rfl, wp_cM, oq_ix hr' at2, oq_mul]
    refine ⟨mk1, ?_⟩
    rw [oq_add, wp_cM, oq_pow]
    have x1 : 0 ≤ b + 104683 * (k + 1) := by omega
    have x2 : b + 104683 * (k + 1) < 2 ^ 200 := by omega
    refine ⟨⟨by decide, by have := bits_le x1 x2 (by decide); omega⟩, ?_⟩
    rw [wp_cM, oq_mod]
    refine ⟨by decide, ?_⟩
    generalize hone : (b + 104683 * (k + 1)) ^ (3 : Int).toNat % 2305843009213693921 = one
    have o1 : 0 ≤ one := by rw [← hone]; exact Int.emod_nonneg _ (by decide)
    have o2 : one < 2305843009213693921 := by rw [← hone]; exact Int.emod_lt_of_pos _ (by decide)
    rw [sw_seq, sw_set, wp_bin, wp_bin, wp_bin, wp_bin, wp_var (v := .d (.int one)) rfl, wp_bin, wp_bin, wp_var (v := .ref r) rfl, wp_cM, oq_ix hr' at1, wp_cM, oq_mod]
    refine ⟨by decide, ?_⟩
    rw [oq_add, wp_bin, wp_cM, wp_bin, wp_var (v := .ref r) rfl, wp_cM, oq_ix hr' at2, oq_mul]
    refine ⟨mk2, ?_⟩
    rw [oq_add, wp_cM, oq_pow]
    have y0 : 0 ≤ b % 65521 := Int.emod_nonneg _ (by decide)
    have y1 : b % 65521 < 65521 := Int.emod_lt_of_pos _ (by decide)
    have x3 : 0 ≤ one + b % 65521 + 37 * (k + 1) := by omega
    have x4 : one + b % 65521 + 37 * (k + 1) < 2 ^ 200 := by omega
    refine ⟨⟨by decide, by have := bits_le x3 x4 (by decide); omega⟩, ?_⟩
    rw [wp_cM, oq_mod]
    refine ⟨by decide, ?_⟩
    generalize (one + b % 65521 + 37 * (k + 1)) ^ (5 : Int).toNat % 2305843009213693907 = other
    rw [sw_seq, sw_ret, wp_bin, wp_bin, wp_var (v := .d (.int other)) rfl, wp_cM, oq_fdiv]
    refine ⟨by decide, ?_⟩
    rw [wp_var (v := .d (.int m)) rfl, oq_mod]
    refine ⟨hm, ?_⟩
    rw [back_d, takeSet]
    exact h _ _ (Int.emod_nonneg _ (by omega)) (Int.emod_lt_of_pos _ hm) ⟨a, b, k + 1, rfl, ha, hb, hb2, by omega, by omega⟩
end Iv
set_option Elab.async false
set_option linter.all false
set_option maxRecDepth 100000
set_option maxHeartbeats 4000000
/-! Lk3: loops and comprehensions, by what holds between two turns. -/
namespace Iv
open PySem
/-- what is walked stands ahead -/
structure Walks (w : Wk) (xs : List PyData) : Prop where
  n : xs.length ≤ w.n
  nx : ∀ i, i ≤ xs.length → ∀ st, w.nx i st = some xs[i]?
section
variable {st : Sto} {ρ : Env} {N : Env → Sto → Prop} {R : Vl → Sto → Prop}
theorem sw_forL {w : Wk} {xs : List PyData} {asg : Asg} {body : S} (hw : Walks w xs) (I : Nat → Env → Sto → Prop) (step : ∀ i d, xs[i]? = some d → ∀ ρ' st', I i ρ' st' → ∃ ρ2, asg d ρ' = some ρ2 ∧ SWp body ρ2 st' (I (i + 1)) R)
    (done : ∀ ρ' st', I xs.length ρ' st' → N ρ' st') : ∀ (m i : Nat), i ≤ xs.length → w.n + 1 ≤ m + i → ∀ {ρ : Env} {st : Sto}, I i ρ st → SWp (forL w.nx asg body m i) ρ st N R
  | 0, i, hi, hm, ρ, st, h => by have := hw.n; omega
  | m + 1, i, hi, hm, ρ, st, h => by
    unfold SWp
    simp only [forL, hw.nx i hi st]
    cases e : xs[i]? with
    | none =>
      have : i = xs.length := by have := List.getElem?_eq_none_iff.mp e; omega
      subst this
      exact done ρ st h
    | some d =>
      have hlt := (List.getElem?_eq_some_iff.mp e).1
      obtain ⟨ρ2, e2, b⟩ := step i d e ρ st h
      simp only [e2]
      unfold SWp at b
      cases e3 : body ρ2 st with
      | nx ρ3 st3 =>
        rw [e3] at b
        exact sw_forL hw I step done m (i + 1) (by omega) (by omega) b
      | rt v st3 => rw [e3] at b; exact b
      | bk ρ3 st3 => rw [e3] at b; exact b.elim
      | ct ρ3 st3 => rw [e3] at b; exact b.elim
      | ex x ρ3 st3 => rw [e3] at b; exact b.elim
      | bad => rw [e3] at b; exact b.elim
theorem sw_for {it : Env → M Wk} {xs : List PyData} {asg : Asg} {body : S} (hit : Wp (it ρ) st fun w st' => Walks w xs ∧ st' = st) (I : Nat → Env → Sto → Prop) (h0 : I 0 ρ st) (step : ∀ i d, xs[i]? = some d → ∀ ρ' st', I i ρ' st' → ∃ ρ2, asg d ρ' = some ρ2 ∧ SWp body ρ2 st' (I (i + 1)) R)
    (done : ∀ ρ' st', I xs.length ρ' st' → N ρ' st') : SWp (forS it asg body) ρ st N R := by
  unfold forS
  rw [sw_bind]
  refine hit.mono fun w st' ⟨hw, e⟩ => ?_
  subst e
  exact sw_forL hw I step done _ 0 (Nat.zero_le _) (by omega) h0
theorem wp_noEx {α : Type} {m : M α} {Q : α → Sto → Prop} : Wp (noEx m) st Q = Wp m st Q := by
  unfold Wp noEx
  cases m st <;> rfl
theorem wp_lcL {w : Wk} {xs : List PyData} {asg : Asg} {tt : Env → M Bool} {te : Env → M Vl} {ρw : Env} {Q : List PyData → Sto → Prop} (hw : Walks w xs) (I : Nat → List PyData → Sto → Prop)
    (step : ∀ i d, xs[i]? = some d → ∀ acc st', I i acc st' → ∃ ρ2, asg d ρw = some ρ2 ∧ Wp (tt ρ2) st' fun b s1 => if b = true then Wp (te ρ2) s1 fun v s2 => Wp (frzM v) s2 fun x s3 => acc.length < sizeLine ∧ I (i + 1) (acc ++ [x]) s3 else I (i + 1) acc s1)
    (done : ∀ acc st', I xs.length acc st' → Q acc st') : ∀ (m i : Nat), i ≤ xs.length → w.n + 1 ≤ m + i → ∀ {acc : List PyData} {st : Sto}, I i acc st → Wp (lcLoop w.nx (lcBody ρw asg tt te) m i acc) st Q
  | 0, i, hi, hm, acc, st, h => by have := hw.n; omega
  | m + 1, i, hi, hm, acc, st, h => by
    cases e : xs[i]? with
    | none =>
      have : i = xs.length := by have := List.getElem?_eq_none_iff.mp e; omega
      subst this
      unfold Wp
      simp only [lcLoop, hw.nx _ hi st, e]
      exact done acc st h
    | some d =>
      have hlt := (List.getElem?_eq_some_iff.mp e).1
      obtain ⟨ρ2, e2, b⟩ := step i d e acc st h
      have e3 : Wp (lcLoop w.nx (lcBody ρw asg tt te) (m + 1) i acc) st Q = Wp (M.bind (lcBody ρw asg tt te d) fun o => match o with
          | none => lcLoop w.nx (lcBody ρw asg tt te) m (i + 1) acc
          | some y => if acc.length < sizeLine then lcLoop w.nx (lcBody ρw asg tt te) m (i + 1) (acc ++ [y]) else nope) st Q := by
        unfold Wp
        simp only [lcLoop, hw.nx i hi st, e]
        try rfl
      rw [e3, wp_bind]
      simp only [lcBody, e2, wp_bind, wp_noEx, wp_ifb, wp_ret]
      refine b.mono fun k s1 h1 => ?_
      cases k with
      | false => exact wp_lcL hw I step done m (i + 1) (by omega) (by omega) h1
      | true =>
        refine h1.mono fun v s2 h2 => h2.mono fun x s3 ⟨h3, h4⟩ => ?_
        rw [if_pos h3]
        exact wp_lcL hw I step done m (i + 1) (by omega) (by omega) h4
/-- [te for asg in it if tt] -/
theorem wp_lc {fin : List PyData → M Vl} {own : List Nat} {it : Env → M Wk} {xs : List PyData} {asg : Asg} {tt : Env → M Bool} {te : Env → M Vl} {Q : Vl → Sto → Prop} (hit : Wp (it ρ) st fun w st' => Walks w xs ∧ st' = st) (I : Nat → List PyData → Sto → Prop) (h0 : I 0 [] st)
    (step : ∀ i d, xs[i]? = some d → ∀ acc st', I i acc st' → ∃ ρ2, asg d (wipeE ρ own) = some ρ2 ∧ Wp (tt ρ2) st' fun b s1 => if b = true then Wp (te ρ2) s1 fun v s2 => Wp (frzM v) s2 fun x s3 => acc.length < sizeLine ∧ I (i + 1) (acc ++ [x]) s3 else I (i + 1) acc s1)
    (done : ∀ acc st', I xs.length acc st' → Wp (fin acc) st' Q) : Wp (lcG fin own it asg tt te ρ) st Q := by
  unfold lcG
  rw [wp_bind]
  refine hit.mono fun w st' ⟨hw, e⟩ => ?_
  subst e
  rw [wp_bind]
  exact wp_lcL hw I step done _ 0 (Nat.zero_le _) (by omega) h0
/-- where nothing is changed: the test tells p, the element g -/
theorem wp_lcP {fin : List PyData → M Vl} {own : List Nat} {it : Env → M Wk} {xs : List PyData} {asg : Asg} {tt : Env → M Bool} {te : Env → M Vl} {Q : Vl → Sto → Prop} (p : PyData → Bool) (g : PyData → PyData) (hit : Wp (it ρ) st fun w st' => Walks w xs ∧ st' = st) (hz : xs.length ≤ sizeLine)
    (step : ∀ d ∈ xs, ∃ ρ2, asg d (wipeE ρ own) = some ρ2 ∧ Wp (tt ρ2) st fun b s1 => s1 = st ∧ b = p d ∧ (p d = true → Wp (te ρ2) st fun v s2 => s2 = st ∧ v = .d (g d)))
    (done : Wp (fin ((xs.filter p).map g)) st Q) : Wp (lcG fin own it asg tt te ρ) st Q := by
  refine wp_lc hit (fun i acc st' => st' = st ∧ acc = ((xs.take i).filter p).map g) ⟨rfl, rfl⟩ (fun i d e acc st' h => ?_) fun acc st' h => ?_
  · obtain ⟨rfl, rfl⟩ := h
    have hlt := (List.getElem?_eq_some_iff.mp e).1
    obtain ⟨ρ2, e2, b⟩ := step d (List.mem_of_getElem? e)
    refine ⟨ρ2, e2, b.mono fun k s1 ⟨h1, h2, h3⟩ => ?_⟩
    subst h1 h2
    have tk : xs.take (i + 1) = xs.take i ++ [d] := by
      rw [List.take_add_one, e]; rfl
    by_cases hp : p d = true
    · rw [if_pos hp]
      refine (h3 hp).mono fun v s2 ⟨h4, h5⟩ => ?_
      subst h4 h5
      rw [wp_frzD]
      refine ⟨?_, rfl, ?_⟩
      · rw [List.length_map]
        refine Nat.lt_of_le_of_lt (List.length_filter_le _ _) ?_
        rw [List.length_take]
        omega
      · rw [tk, List.filter_append, List.map_append]
        simp [hp]
    · rw [if_neg hp]
      refine ⟨rfl, ?_⟩
      rw [tk, List.filter_append, List.map_append]
      simp [hp]
  · obtain ⟨rfl, rfl⟩ := h
    rwa [List.take_length]
/-! ### walks -/
theorem it_list {f : Env → M Vl} {xs : List PyData} (h : Wp (f ρ) st fun v st' => v = .d (.list xs) ∧ st' = st) : Wp (itV f ρ) st fun w st' => Walks w xs ∧ st' = st := by
  unfold itV
  rw [wp_bind]
  refine h.mono fun v st' ⟨e1, e2⟩ => ?_
  subst e1 e2
  exact ⟨⟨Nat.le_refl _, fun i _ s => rfl⟩, rfl⟩
theorem it_tuple {f : Env → M Vl} {xs : List PyData} (h : Wp (f ρ) st fun v st' => v = .d (.tuple xs) ∧ st' = st) : Wp (itV f ρ) st fun w st' => Walks w xs ∧ st' = st := by
  unfold itV
  rw [wp_bind]
  refine h.mono fun v st' ⟨e1, e2⟩ => ?_
  subst e1 e2
  exact ⟨⟨Nat.le_refl _, fun i _ s => rfl⟩, rfl⟩
/-- range -/
def rngD (lo : Int) (n : Nat) : List PyData := (List.range n).map fun i => .int (lo + (i : Nat))
theorem rngD_len {lo : Int} {n : Nat} : (rngD lo n).length = n := by simp [rngD]
theorem rngD_get {lo : Int} {n i : Nat} : (rngD lo n)[i]? = if i < n then some (.int (lo + (i : Nat))) else none := by
  unfold rngD
  rw [List.getElem?_map]
  by_cases h : i < n
  · rw [List.getElem?_range h, if_pos h]; rfl
  · rw [if_neg h, List.getElem?_eq_none (by simpa using h)]; rfl
theorem it_rng1 {f : Env → M Vl} {j : Int} (h : Wp (f ρ) st fun v st' => v = .d (.int j) ∧ st' = st) (h1 : -4611686018427387904 ≤ j) (h2 : j < 4611686018427387904) : Wp (itR1 f ρ) st fun w st' => Walks w (rngD 0 j.toNat) ∧ st' = st := by
  unfold itR1
  rw [wp_bind]
  refine h.mono fun v st' ⟨e1, e2⟩ => ?_
  subst e1 e2
  unfold rng1
  dsimp only
  rw [if_pos ⟨h1, h2⟩, wp_ret]
  exact ⟨⟨by rw [rngD_len]; exact Nat.le_refl _, fun i _ s => by show some _ = _; rw [rngD_get]⟩, rfl⟩
theorem it_rng2 {f g : Env → M Vl} {i j : Int} (h : Wp (f ρ) st fun v st' => v = .d (.int i) ∧ st' = st) (h' : Wp (g ρ) st fun v st' => v = .d (.int j) ∧ st' = st) (h1 : -4611686018427387904 ≤ i ∧ i < 4611686018427387904 ∧ -4611686018427387904 ≤ j ∧ j < 4611686018427387904) : Wp (itR2 f g ρ) st fun w st' => Walks w (rngD i (j - i).toNat) ∧ st' = st := by
  unfold itR2
  rw [wp_bind]
  refine h.mono fun v st' ⟨e1, e2⟩ => ?_
  subst e1 e2
  rw [wp_bind]
  refine h'.mono fun v st'' ⟨e1, e2⟩ => ?_
  subst e1 e2
  unfold rng2
  dsimp only
  rw [if_pos h1, wp_ret]
  exact ⟨⟨by rw [rngD_len]; exact Nat.le_refl _, fun i _ s => by show some _ = _; rw [rngD_get]⟩, rfl⟩
def enD (xs : List PyData) : List PyData := xs.zipIdx.map fun p => .tuple [.int (p.2 : Nat), p.1]
theorem enD_len {xs : List PyData} : (enD xs).length = xs.length := by simp [enD]
theorem enD_get {xs : List PyData} {i : Nat} : (enD xs)[i]? = xs[i]?.map fun d => .tuple [.int (i : Nat), d] := by
  unfold enD
  rw [List.getElem?_map, List.getElem?_zipIdx]
  cases xs[i]? <;> simp
theorem en_walks {a : Vl} {xs : List PyData} (h : ∀ st, asQ st a = some xs) : Walks ⟨xs.length, enNx a⟩ (enD xs) := by
  refine ⟨by rw [enD_len]; exact Nat.le_refl _, fun i hi s => ?_⟩
  rw [enD_len] at hi
  simp only [enNx, h s, Option.bind_some, enD_get]
  cases e : xs[i]? with
  | none =>
    have : i = xs.length := by have := List.getElem?_eq_none_iff.mp e; omega
    simp [this]
  | some d => rfl
theorem it_en {f : Env → M (List Vl)} {a : Vl} {xs : List PyData} (h : Wp (f ρ) st fun v st' => v = [a] ∧ st' = st) (ha : ∀ st, asQ st a = some xs) : Wp (M.bind (f ρ) enM) st fun w st' => Walks w (enD xs) ∧ st' = st := by
  rw [wp_bind]
  refine h.mono fun v st' ⟨e1, e2⟩ => ?_
  subst e1 e2
  unfold Wp
  simp only [enM, ha]
  exact ⟨en_walks ha, trivial⟩
def zpD (xs ys : List PyData) : List PyData := (xs.zip ys).map fun p => .tuple [p.1, p.2]
theorem zp_walks {a c : Vl} {xs ys : List PyData} (h : ∀ st, asQ st a = some xs) (h' : ∀ st, asQ st c = some ys) : Walks ⟨xs.length, zpNx a c⟩ (zpD xs ys) := by
  have hl : (zpD xs ys).length = min xs.length ys.length := by simp [zpD]
  refine ⟨by rw [hl]; exact Nat.min_le_left _ _, fun i hi s => ?_⟩
  rw [hl] at hi
  simp only [zpNx, h s, h' s, Option.bind_some]
  by_cases q : i < min xs.length ys.length
  · have q1 : i < xs.length := by omega
    have q2 : i < ys.length := by omega
    have e1 := List.getElem?_eq_getElem q1
    have e2 := List.getElem?_eq_getElem q2
    rw [e1, e2]
    unfold zpD
    rw [List.getElem?_map, show (xs.zip ys)[i]? = some (xs[i], ys[i]) from List.getElem?_zip_eq_some.mpr ⟨e1, e2⟩]
    rfl
  · have e : (zpD xs ys)[i]? = none := List.getElem?_eq_none (by omega)
    rw [e]
    cases e1 : xs[i]? with
    | none => simp only; rw [if_pos (by have := List.getElem?_eq_none_iff.mp e1; omega)]
    | some d =>
      cases e2 : ys[i]? with
      | none => simp only; rw [if_pos (by have := List.getElem?_eq_none_iff.mp e2; omega)]
      | some d' =>
        have := (List.getElem?_eq_some_iff.mp e1).1
        have := (List.getElem?_eq_some_iff.mp e2).1
        omega
theorem it_zp {f : Env → M (List Vl)} {a c : Vl} {xs ys : List PyData} (h : Wp (f ρ) st fun v st' => v = [a, c] ∧ st' = st) (ha : ∀ st, asQ st a = some xs) (hc : ∀ st, asQ st c = some ys) : Wp (M.bind (f ρ) zpM) st fun w st' => Walks w (zpD xs ys) ∧ st' = st := by
  rw [wp_bind]
  refine h.mono fun v st' ⟨e1, e2⟩ => ?_
  subst e1 e2
  unfold Wp
  simp only [zpM, ha, hc]
  exact ⟨zp_walks ha hc, trivial⟩
end
end Iv
set_option Elab.async false
set_option linter.all false
set_option maxRecDepth 100000
set_option maxHeartbeats 4000000
/-! Lk4: defs by their bodies; the draws; whole numbers. -/
namespace Iv
open PySem
def HasB (P : Pg) (x : Str) (n : Nat) (b : (Str → List Vl → M Vl) → S) : Prop := ∃ f, findF P.fns x = some f ∧ f.N.length = n ∧ ∀ c, bodyF P c f = some (b c)
theorem HasB.wp {P : Pg} {x : Str} {n k m : Nat} {b : (Str → List Vl → M Vl) → S} (h : HasB P x n b) {as : List Vl} {st : Sto} {Q : Vl → Sto → Prop} (hm : k < m)
    (g : ∀ m', k ≤ m' → SWp (b (callN P m')) (env0 n as) st (fun _ st' => Back st.length (.d .none) st' Q) (fun v st' => Back st.length v st' Q)) : Wp (callN P m x as) st Q := by
  obtain ⟨m', rfl⟩ : ∃ m', m = m' + 1 := ⟨m - 1, by omega⟩
  obtain ⟨f, h1, h2, h3⟩ := h
  refine wp_call h1 (h3 _) ?_
  rw [h2]
  exact g m' (by omega)
section
variable {st : Sto} {ρ : Env} {N : Env → Sto → Prop} {R : Vl → Sto → Prop}
theorem wp_v0 {v : Vl} {Q : Vl → Sto → Prop} : Wp (varM 0 (some v :: ρ)) st Q = Q v st := rfl
theorem wp_vs {i : Nat} {x : Option Vl} {Q : Vl → Sto → Prop} : Wp (varM (i + 1) (x :: ρ)) st Q = Wp (varM i ρ) st Q := rfl
theorem wp_ty {t : Ty} {Q : Vl → Sto → Prop} : Wp (tyM t ρ) st Q = Q (.ty t) st := rfl
theorem wp_gl {x : Str} {Q : Vl → Sto → Prop} : Wp (glM x ρ) st Q = Q (.gl x) st := rfl
theorem oq_l1 {p : P1} {a : Vl} {Q : Vl → Sto → Prop} : OptQ (l1 p [a] st) Q = OptQ (p a st) Q := rfl
theorem oq_l2 {p : P2} {a b : Vl} {Q : Vl → Sto → Prop} : OptQ (l2 p [a, b] st) Q = OptQ (p a b st) Q := rfl
theorem wp_g1 {c : List Vl → M Vl} {a : Vl} {Q : Vl → Sto → Prop} : Wp (guardN 1 c [a]) st Q = Wp (c [a]) st Q := rfl
theorem wp_g2 {c : List Vl → M Vl} {a b : Vl} {Q : Vl → Sto → Prop} : Wp (guardN 2 c [a, b]) st Q = Wp (c [a, b]) st Q := rfl
theorem wp_g3 {c : List Vl → M Vl} {a b d : Vl} {Q : Vl → Sto → Prop} : Wp (guardN 3 c [a, b, d]) st Q = Wp (c [a, b, d]) st Q := rfl
theorem wp_g4 {c : List Vl → M Vl} {a b d e : Vl} {Q : Vl → Sto → Prop} : Wp (guardN 4 c [a, b, d, e]) st Q = Wp (c [a, b, d, e]) st Q := rfl
theorem oq_isi {d : PyData} (u : Ty) {Q : Vl → Sto → Prop} (h : u ≠ .non) : OptQ (pIsi [.d d, .ty u] st) Q = Q (.d (.bool (isi (tyD d) u))) st := by
  show OptQ (pIsi2 (.d d) (.ty u) st) Q = _
  unfold pIsi2
  simp only [if_neg h, tyS, Option.map_some]
  rfl
theorem oq_isiR {r : Nat} {xs : List PyData} (u : Ty) {Q : Vl → Sto → Prop} (hr : st[r]? = some (.lst xs)) (h : u ≠ .non) : OptQ (pIsi [.ref r, .ty u] st) Q = Q (.d (.bool (isi .lst u))) st := by
  show OptQ (pIsi2 (.ref r) (.ty u) st) Q = _
  unfold pIsi2
  simp only [if_neg h, tyS, hr, Option.map_some]
  rfl
/-- _law_take, called -/
theorem take_wp {P : Pg} (hB : HasB P "_law_take" 5 fun _ => takeB) {m r : Nat} (hm : 0 < m) {p : List PyData} {B : Nat} {n : Int} {Q : Vl → Sto → Prop} (hr : st[r]? = some (.lst p)) (hp : Pot B p) (hb : B ≤ 2 ^ 100) (h0 : 0 < n) (h2 : n < 2 ^ 1000)
    (h : ∀ d p', 0 ≤ d → d < n → Pot (B + 1) p' → Q (.d (.int d)) (st.set r (.lst p'))) : Wp (callN P m "_law_take" [.ref r, .d (.int n)]) st Q :=
  hB.wp (k := 0) hm fun m' _ => take_run hr hp hb h0 h2 h
theorem oq_le {i j : Int} {Q : Vl → Sto → Prop} : OptQ (cmpP .LtE (.d (.int i)) (.d (.int j)) st) Q = Q (.d (.bool (decide (i ≤ j)))) st := rfl
theorem oq_lt {i j : Int} {Q : Vl → Sto → Prop} : OptQ (cmpP .Lt (.d (.int i)) (.d (.int j)) st) Q = Q (.d (.bool (decide (i < j)))) st := rfl
theorem oq_ge {i j : Int} {Q : Vl → Sto → Prop} : OptQ (cmpP .GtE (.d (.int i)) (.d (.int j)) st) Q = Q (.d (.bool (decide (j ≤ i)))) st := rfl
theorem oq_gt {i j : Int} {Q : Vl → Sto → Prop} : OptQ (cmpP .Gt (.d (.int i)) (.d (.int j)) st) Q = Q (.d (.bool (decide (j < i)))) st := rfl
theorem eqv_int {i j : Int} : PyData.eqv (.int i) (.int j) = decide (i = j) := by first | rfl | simp [PyData.eqv] | (simp [PyData.eqv]; rfl)
theorem oq_eqD {x y : PyData} {Q : Vl → Sto → Prop} (h : eqOk x y = true) : OptQ (cmpP .Eq (.d x) (.d y) st) Q = Q (.d (.bool (PyData.eqv x y))) st := by
  show OptQ ((asD st (.d x)).bind fun x => (asD st (.d y)).bind fun y => if eqOk x y = true then some (.d (.bool (PyData.eqv x y)), st) else none) Q = _
  simp only [asD, Option.bind_some, if_pos h]
  rfl
theorem oq_neD {x y : PyData} {Q : Vl → Sto → Prop} (h : eqOk x y = true) : OptQ (cmpP .NotEq (.d x) (.d y) st) Q = Q (.d (.bool (!PyData.eqv x y))) st := by
  show OptQ ((asD st (.d x)).bind fun x => (asD st (.d y)).bind fun y => if eqOk x y = true then some (.d (.bool (!PyData.eqv x y)), st) else none) Q = _
  simp only [asD, Option.bind_some, if_pos h]
  rfl
theorem back_new {c : Cell} {Q : Vl → Sto → Prop} (xs : List PyData) : Back st.length (.ref st.length) (st ++ [.lst xs]) Q = Q (.ref st.length) (st ++ [.lst xs]) := by
  unfold Back Wp
  simp [backM]
theorem ix_list {ns : List Int} {k : Nat} {Q : Vl → Sto → Prop} (h : k < ns.length) : OptQ (pIxA2 (.d (.list (ns.map .int))) (.d (.int (k : Nat))) st) Q = Q (.d (.int ns[k])) st := by
  have e : L2.atI (ns.map PyData.int) ((k : Nat) : Int) = some (.int ns[k]) := by
    unfold L2.atI L2.ixN
    rw [if_pos (by omega), List.length_map, if_pos (by omega)]
    simp [h]
  unfold pIxA2
  simp only [asK, pIx2, asQ, asT, asL, Option.none_or, Option.bind_some, e, Option.map_some]
  rfl
theorem oq_abs {i : Int} {Q : Vl → Sto → Prop} : OptQ (pAbs [.d (.int i)] st) Q = Q (.d (.int (if i < 0 then -i else i))) st := rfl
theorem oq_intB {b : Bool} {Q : Vl → Sto → Prop} : OptQ (pInt [.d (.bool b)] st) Q = Q (.d (.int (if b then 1 else 0))) st := rfl
theorem len_list {xs : List PyData} {Q : Vl → Sto → Prop} : OptQ (l1 pLenA1 [.d (.list xs)] st) Q = Q (.d (.int xs.length)) st := rfl
theorem len_tuple {xs : List PyData} {Q : Vl → Sto → Prop} : OptQ (l1 pLenA1 [.d (.tuple xs)] st) Q = Q (.d (.int xs.length)) st := rfl
theorem wp_lstC {f : Env → M (List Vl)} {Q : Vl → Sto → Prop} : Wp (lstC f ρ) st Q = Wp (f ρ) st fun as s1 => Wp (frzsM as) s1 fun xs s2 => Wp (if xs.length ≤ sizeLine then newC xs else nope) s2 Q := by
  unfold lstC
  simp only [wp_bind]
theorem wp_lstM {f : Env → M (List Vl)} {Q : Vl → Sto → Prop} : Wp (lstM f ρ) st Q = Wp (f ρ) st fun as s1 => Wp (frzsM as) s1 fun xs s2 => Wp (if xs.length ≤ sizeLine then ret (.d (.list xs)) else nope) s2 Q := by
  unfold lstM
  simp only [wp_bind]
theorem wp_tupM {f : Env → M (List Vl)} {Q : Vl → Sto → Prop} : Wp (tupM f ρ) st Q = Wp (f ρ) st fun as s1 => Wp (frzsM as) s1 fun xs s2 => Wp (if xs.length ≤ sizeLine then ret (.d (.tuple xs)) else nope) s2 Q := by
  unfold tupM
  simp only [wp_bind]
theorem frzs_d : ∀ xs : List PyData, frzs st (xs.map Vl.d) = some (xs, st)
  | [] => rfl
  | x :: xs => by
    rw [List.map_cons, frzs]
    simp only [frz1, Option.bind_some, frzs_d xs, Option.map_some]
theorem wp_frzs {xs : List PyData} {Q : List PyData → Sto → Prop} : Wp (frzsM (xs.map Vl.d)) st Q = Q xs st := by
  unfold Wp frzsM
  rw [frzs_d]
theorem wp_newC {xs : List PyData} {Q : Vl → Sto → Prop} (h : xs.length ≤ sizeLine) : Wp (if xs.length ≤ sizeLine then newC xs else nope) st Q = Q (.ref st.length) (st ++ [.lst xs]) := by
  rw [if_pos h]; rfl
theorem wp_retL {xs : List PyData} {Q : Vl → Sto → Prop} (h : xs.length ≤ sizeLine) : Wp (if xs.length ≤ sizeLine then ret (.d (.list xs)) else nope) st Q = Q (.d (.list xs)) st := by
  rw [if_pos h]; rfl
theorem wp_retT {xs : List PyData} {Q : Vl → Sto → Prop} (h : xs.length ≤ sizeLine) : Wp (if xs.length ≤ sizeLine then ret (.d (.tuple xs)) else nope) st Q = Q (.d (.tuple xs)) st := by
  rw [if_pos h]; rfl
/-- _law_pot(script, k) -/
theorem pot_run {ns : List Int} {k : Nat} {Q : Vl → Sto → Prop} (hk : k ≤ 1000) (h : ∀ p, Pot 0 p → Q (.ref st.length) (st ++ [.lst p])) :
    SWp potB (env0 4 [.d (.list (ns.map .int)), .d (.int (k : Nat))]) st (fun _ st' => Back st.length (.d .none) st' Q) (fun v st' => Back st.length v st' Q) := by
  show SWp potB [some (.d (.list (ns.map .int))), some (.d (.int (k : Nat))), none, none] st _ _
  have fin : ∀ cell : Int, 0 ≤ cell → cell < 10 ^ 600 → SWp (seqS (setS 3 (bin pMod2 (bin pPow2 (bin pAdd2 (bin pAdd2 (bin pMod2 (varM 2) (kI 2147483587)) (bin pMulA2 (kI 6007) (varM 1))) (kI 1)) (kI 5)) (kI 2305843009213693951)))
        (seqS (retS (lstC (consM (bin pMulA2 (varM 2) (callP pInt (consM (bin (cmpP .GtE) (varM 2) (bin pPow2 (kI 10) (kI 18))) nilM))) (consM (varM 3) (consM (kI 0) nilM))))) nextS))
      [some (.d (.list (ns.map .int))), some (.d (.int (k : Nat))), some (.d (.int cell)), none] st (fun _ st' => Back st.length (.d .none) st' Q) (fun v st' => Back st.length v st' Q) := by
    intro cell c0 c1
    have m0 : 0 ≤ cell % 2147483587 := Int.emod_nonneg _ (by decide)
    have m1 : cell % 2147483587 < 2147483587 := Int.emod_lt_of_pos _ (by decide)
    have mk : mulOk 6007 ((k : Nat) : Int) = true := mulOk_of (m := 13) (n := 10) (by decide) (by rw [Int.natAbs_natCast]; omega) (by decide) (by decide) (by decide)
    rw [sw_seq, sw_set, wp_bin, wp_bin, wp_bin, wp_bin, wp_bin, wp_vs, wp_vs, wp_v0, wp_cM, oq_mod]
    refine ⟨by decide, ?_⟩
    rw [wp_bin, wp_cM, wp_vs, wp_v0, oq_mul]
    refine ⟨mk, ?_⟩
    rw [oq_add, wp_cM, oq_add, wp_cM, oq_pow]
    have x1 : 0 ≤ cell % 2147483587 + 6007 * ((k : Nat) : Int) + 1 := by omega
    have x2 : cell % 2147483587 + 6007 * ((k : Nat) : Int) + 1 < 2 ^ 40 := by omega
    refine ⟨⟨by decide, by have := bits_le x1 x2 (by decide); omega⟩, ?_⟩
    rw [wp_cM, oq_mod]
    refine ⟨by decide, ?_⟩
    generalize hb : (cell % 2147483587 + 6007 * ((k : Nat) : Int) + 1) ^ (5 : Int).toNat % 2305843009213693951 = b
    have b0 : 0 ≤ b := by rw [← hb]; exact Int.emod_nonneg _ (by decide)
    have b1 : b < 2305843009213693951 := by rw [← hb]; exact Int.emod_lt_of_pos _ (by decide)
    show SWp _ [some (.d (.list (ns.map .int))), some (.d (.int (k : Nat))), some (.d (.int cell)), some (.d (.int b))] st _ _
    rw [sw_seq, sw_ret, wp_lstC, wp_cons, wp_bin, wp_vs, wp_vs, wp_v0, wp_callP, wp_cons, wp_bin, wp_vs, wp_vs, wp_v0, wp_bin, wp_cM, wp_cM, oq_pow]
    refine ⟨by decide +kernel, ?_⟩
    show OptQ (pCmp2 (fun i j => decide (j ≤ i)) (.d (.int cell)) (.d (.int _)) st) _
    rw [oq_cmp, wp_nil, oq_intB, oq_mul]
    have c2 : cell < 2 ^ 2000 := Int.lt_of_lt_of_le c1 (by decide +kernel)
    generalize hs : (if decide ((10 : Int) ^ (18 : Int).toNat ≤ cell) = true then (1 : Int) else 0) = s
    have s0 : s = 0 ∨ s = 1 := by rw [← hs]; split <;> simp
    refine ⟨?_, ?_⟩
    · refine mulOk_of (m := 2000) (n := 1) (natAbs_lt c0 c2) ?_ (by decide) (by decide) (by decide)
      rcases s0 with rfl | rfl <;> decide
    · rw [wp_cons, wp_vs, wp_vs, wp_vs, wp_v0, wp_cons, wp_cM, wp_nil]
      show Wp (frzsM ([.int (cell * s), .int b, .int 0].map Vl.d)) st _
      rw [wp_frzs, wp_newC (xs := [.int (cell * s), .int b, .int 0]) (show 3 ≤ sizeLine by decide), back_new (c := .dead)]
      refine h _ ⟨cell * s, b, 0, rfl, ?_, b0, b1, by omega, by omega⟩
      rcases s0 with rfl | rfl
      · simp
      · simpa using c0
  unfold potB
  rw [sw_seq, sw_set, wp_cM, sw_seq, sw_if, wp_bM, wp_bin]
  simp only [List.set_cons_succ, List.set_cons_zero]
  rw [wp_vs, wp_v0, wp_callP, wp_cons, wp_v0, wp_nil, len_list, oq_lt, wp_asB]
  by_cases hlt : ((k : Nat) : Int) < (((ns.map PyData.int).length : Nat) : Int)
  · have hl : k < ns.length := by rw [List.length_map] at hlt; omega
    rw [if_pos (decide_eq_true hlt), sw_seq, sw_set, wp_bin, wp_callP, wp_cons, wp_bin, wp_v0, wp_vs, wp_v0, ix_list hl, wp_nil, oq_abs, wp_bin, wp_bin, wp_cM, wp_cM, oq_pow]
    refine ⟨by decide +kernel, ?_⟩
    rw [wp_cM, oq_pow]
    refine ⟨by decide +kernel, ?_⟩
    rw [oq_mod]
    refine ⟨by decide +kernel, ?_⟩
    rw [sw_next]
    refine fin _ (Int.emod_nonneg _ (by decide +kernel)) ?_
    refine Int.lt_of_lt_of_le (Int.emod_lt_of_pos _ (by decide +kernel)) (by decide +kernel)
  · rw [if_neg (by simpa using hlt), sw_next]
    exact fin 0 (by decide) (by decide +kernel)
theorem pot_wp {P : Pg} (hB : HasB P "_law_pot" 4 fun _ => potB) {m : Nat} (hm : 0 < m) {ns : List Int} {k : Nat} {Q : Vl → Sto → Prop} (hk : k ≤ 1000) (h : ∀ p, Pot 0 p → Q (.ref st.length) (st ++ [.lst p])) :
    Wp (callN P m "_law_pot" [.d (.list (ns.map .int)), .d (.int (k : Nat))]) st Q := hB.wp (k := 0) hm fun m' _ => pot_run hk h
/-! ### whole numbers -/
def b_whole : S := seqS (retS (andV (callP pIsi (consM (varM 0) (consM (tyM .int) nilM))) (notV (callP pIsi (consM (varM 0) (consM (tyM .bl) nilM)))))) nextS
def wholeD : PyData → Bool
  | .int _ => true
  | _ => false
theorem whole_run {d : PyData} {Q : Vl → Sto → Prop} (h : Q (.d (.bool (wholeD d))) st) : SWp b_whole (env0 1 [.d d]) st (fun _ st' => Back st.length (.d .none) st' Q) (fun v st' => Back st.length v st' Q) := by
  show SWp b_whole [some (.d d)] st _ _
  unfold b_whole
  rw [sw_seq, sw_ret, wp_andV, wp_callP, wp_cons, wp_v0, wp_cons, wp_ty, wp_nil, oq_isi .int (by decide), wp_trub, wp_notV, wp_callP, wp_cons, wp_v0, wp_cons, wp_ty, wp_nil, oq_isi .bl (by decide), wp_trub, back_d, back_d, List.take_length]
  cases d <;> exact h
theorem whole_wp {P : Pg} (hB : HasB P "is_whole" 1 fun _ => b_whole) {m : Nat} (hm : 0 < m) {d : PyData} {Q : Vl → Sto → Prop} (h : Q (.d (.bool (wholeD d))) st) : Wp (callN P m "is_whole" [.d d]) st Q :=
  hB.wp (k := 0) hm fun m' _ => whole_run h
def b_between (c : Str → List Vl → M Vl) : S := seqS (retS (andV (callF 1 (c "is_whole") (consM (varM 0) nilM)) (chain (cmpP .LtE) (cmpP .LtE) (varM 1) (varM 0) (varM 2)))) nextS
def betweenD (d : PyData) (lo hi : Int) : Bool := match d with
  | .int i => decide (lo ≤ i ∧ i ≤ hi)
  | _ => false
theorem between_wp {P : Pg} (hW : HasB P "is_whole" 1 fun _ => b_whole) (hB : HasB P "is_between" 3 b_between) {m : Nat} (hm : 1 < m) {d : PyData} {lo hi : Int} {Q : Vl → Sto → Prop} (h : Q (.d (.bool (betweenD d lo hi))) st) : Wp (callN P m "is_between" [.d d, .d (.int lo), .d (.int hi)]) st Q := by
  refine hB.wp (k := 1) hm fun m' hm' => ?_
  show SWp _ [some (.d d), some (.d (.int lo)), some (.d (.int hi))] st _ _
  unfold b_between
  rw [sw_seq, sw_ret, wp_andV, wp_callF, wp_cons, wp_v0, wp_nil, wp_g1]
  refine whole_wp hW (by omega) ?_
  rw [wp_trub]
  cases d with
  | int i =>
    rw [if_pos (show wholeD (.int i) = true from rfl), wp_chain, wp_vs, wp_v0, wp_v0]
    rw [oq_le, wp_asB]
    by_cases h1 : lo ≤ i
    · rw [if_pos (decide_eq_true h1), wp_vs, wp_vs, wp_v0, oq_le, back_d, List.take_length]
      have : betweenD (.int i) lo hi = decide (i ≤ hi) := by simp [betweenD, h1]
      rwa [← this]
    · rw [if_neg (by simpa using h1), back_d, List.take_length]
      have : betweenD (.int i) lo hi = false := by simp [betweenD, h1]
      rwa [← this]
  | none => rw [if_neg (by simp [wholeD]), back_d, List.take_length]; exact h
  | bool _ => rw [if_neg (by simp [wholeD]), back_d, List.take_length]; exact h
  | str _ => rw [if_neg (by simp [wholeD]), back_d, List.take_length]; exact h
  | list _ => rw [if_neg (by simp [wholeD]), back_d, List.take_length]; exact h
  | tuple _ => rw [if_neg (by simp [wholeD]), back_d, List.take_length]; exact h
  | dict _ => rw [if_neg (by simp [wholeD]), back_d, List.take_length]; exact h
end
end Iv
set_option Elab.async false
set_option linter.all false
set_option maxRecDepth 100000
/-! Lk5: bodies of the defs about codes (printed by body.py). -/
namespace Iv
open PySem
def tab_FORMS : List (Str × DV) := [("set", .d (.tuple [(.str "register"), (.str "worth")])), ("copy", .d (.tuple [(.str "register"), (.str "register")])), ("+", .d (.tuple [(.str "register"), (.str "register"), (.str "register")])), ("-", .d (.tuple [(.str "register"), (.str "register"), (.str "register")])), ("*", .d (.tuple [(.str "register"), (.str "register"), (.str "register")])), ("<", .d (.tuple [(.str "register"), (.str "register"), (.str "register")])), ("=", .d (.tuple [(.str "register"), (.str "register"), (.str "register")])), ("get", .d (.tuple [(.str "register"), (.str "array"), (.str "register")])), ("put", .d (.tuple [(.str "array"), (.str "register"), (.str "register")])), ("test", .d (.tuple [(.str "register"), (.str "row")])), ("go", .d (.tuple [(.str "row")])), ("count", .d (.tuple [(.str "rounds")])), ("again", .d (.tuple [(.str "row")])), ("rest", .d (.tuple [])), ("end", .d (.tuple []))]
def b_is_whole (c : Str → List Vl → M Vl) : S := (seqS (retS (andV (callP pIsi (consM (varM 0) (consM (tyM .int) nilM))) (notV (callP pIsi (consM (varM 0) (consM (tyM .bl) nilM))))))
  nextS)
def b_is_between (c : Str → List Vl → M Vl) : S := (seqS (retS (andV (callF 1 (c "is_whole") (consM (varM 0) nilM)) (chain (cmpP .LtE) (cmpP .LtE) (varM 1) (varM 0) (varM 2))))
  nextS)
def b_is_span (c : Str → List Vl → M Vl) : S := (seqS (ifS (orM (notM (tst (callP pIsi (consM (varM 0) (consM (tyM .tup) nilM))))) (bM (bin (cmpP .NotEq) (callP (l1 pLenA1) (consM (varM 0) nilM)) (kI 2)))) (seqS (retS (cM (.bool false)))
  nextS) nextS)
  (seqS (retS (andV (callP pAll (consM (lcG (fun xs => ret (.d (.list xs))) [1] (itV (varM 0)) (aName 1) yesM (callF 3 (c "is_between") (consM (varM 1) (consM (kI 0) (consM (kI 255) nilM))))) nilM)) (bin (cmpP .LtE) (bin pIxA2 (varM 0) (kI 0)) (bin pIxA2 (varM 0) (kI 1)))))
  nextS))
def b_limits_of (c : Str → List Vl → M Vl) : S := (seqS (retS (dctG (fun ds => ret (.d (.dict ds))) [((cM (.str "register")), (tupM (consM (kI 0) (consM (bin pSub2 (varM 0) (kI 1)) nilM)))), ((cM (.str "worth")), (tupM (consM (kI 0) (consM (kI 255) nilM)))), ((cM (.str "array")), (tupM (consM (kI 0) (consM (bin pSub2 (callP (l1 pLenA1) (consM (varM 1) nilM)) (kI 1)) nilM)))), ((cM (.str "row")), (tupM (consM (kI 0) (consM (bin pSub2 (callP (l1 pLenA1) (consM (varM 2) nilM)) (kI 1)) nilM)))), ((cM (.str "rounds")), (tupM (consM (kI 1) (consM (kI 6) nilM))))]))
  nextS)
def b_is_part (c : Str → List Vl → M Vl) : S := (seqS (asgS (aTup 2 (aCons (aName 3) (aCons (aName 4) aNil))) (bin pIxA2 (varM 0) (varM 1)))
  (seqS (retS (callF 3 (c "is_between") (consM (varM 2) (consM (varM 3) (consM (varM 4) nilM)))))
  nextS))
def b_is_row_within (c : Str → List Vl → M Vl) : S := (seqS (ifS (orM (notM (tst (callP pIsi (consM (varM 1) (consM (tyM .tup) nilM))))) (orM (bM (bin (cmpP .Eq) (callP (l1 pLenA1) (consM (varM 1) nilM)) (kI 0))) (orM (notM (tst (callP pIsi (consM (bin pIxA2 (varM 1) (kI 0)) (consM (tyM .str) nilM))))) (bM (bin (pInD2 true "FORMS" tab_FORMS) (bin pIxA2 (varM 1) (kI 0)) (glM "FORMS")))))) (seqS (retS (cM (.bool false)))
  nextS) nextS)
  (seqS (asgS (aStar 2 1 (aCons (aName 2) (aCons (aName 3) aNil))) (varM 1))
  (seqS (setS 4 (bin (pIxD2 "FORMS" tab_FORMS) (glM "FORMS") (varM 2)))
  (seqS (ifS (bM (bin (cmpP .NotEq) (callP (l1 pLenA1) (consM (varM 3) nilM)) (callP (l1 pLenA1) (consM (varM 4) nilM)))) (seqS (retS (cM (.bool false)))
  nextS) nextS)
  (seqS (retS (callP pAll (consM (lcG (fun xs => ret (.d (.list xs))) [5, 6] (fun ρ => M.bind ((consM (varM 3) (consM (varM 4) nilM)) ρ) zpM) (aTup 2 (aCons (aName 5) (aCons (aName 6) aNil))) yesM (callF 3 (c "is_part") (consM (varM 0) (consM (varM 6) (consM (varM 5) nilM))))) nilM)))
  nextS)))))
def b_loops_by (c : Str → List Vl → M Vl) : S := (seqS (retS (callP (l1 pSorted1) (consM (lcG (fun xs => ret (.d (.list xs))) [1, 2] (fun ρ => M.bind ((consM (varM 0) nilM) ρ) enM) (aTup 2 (aCons (aName 1) (aCons (aName 2) aNil))) (bM (bin (cmpP .Eq) (bin pIxA2 (varM 2) (kI 0)) (cM (.str "again")))) (tupM (consM (bin pSub2 (bin pIxA2 (varM 2) (kI 1)) (kI 1)) (consM (varM 1) nilM)))) nilM)))
  nextS)
def b_around_by (c : Str → List Vl → M Vl) : S := (seqS (retS (lcG (fun xs => ret (.d (.list xs))) [2, 3] (itV (varM 0)) (aTup 2 (aCons (aName 2) (aCons (aName 3) aNil))) (bM (chain (cmpP .Lt) (cmpP .LtE) (varM 2) (varM 1) (varM 3))) (varM 2)))
  nextS)
def b_is_apart (c : Str → List Vl → M Vl) : S := (seqS (asgS (aTup 2 (aCons (aTup 2 (aCons (aName 2) (aCons (aName 3) aNil))) (aCons (aTup 2 (aCons (aName 4) (aCons (aName 5) aNil))) aNil))) (callP (l1 pSorted1) (consM (lstM (consM (varM 0) (consM (varM 1) nilM))) nilM)))
  (seqS (retS (orV (bin (cmpP .Lt) (varM 3) (varM 4)) (andV (bin (cmpP .Lt) (varM 2) (varM 4)) (bin (cmpP .Lt) (varM 5) (varM 3)))))
  nextS))
def b_are_loops (c : Str → List Vl → M Vl) : S := (seqS (setS 2 (lcG (fun xs => ret (.d (.list xs))) [3, 4] (fun ρ => M.bind ((consM (varM 0) nilM) ρ) enM) (aTup 2 (aCons (aName 3) (aCons (aName 4) aNil))) (bM (bin (cmpP .Eq) (bin pIxA2 (varM 4) (kI 0)) (cM (.str "count")))) (varM 3)))
  (seqS (ifS (orM (bM (bin (cmpP .NotEq) (callP (l1 pSorted1) (consM (varM 2) nilM)) (lcG (fun xs => ret (.d (.list xs))) [5, 6] (itV (varM 1)) (aTup 2 (aCons (aName 5) (aCons (aName 6) aNil))) yesM (varM 5)))) (notM (tst (callP pAll (consM (lcG (fun xs => ret (.d (.list xs))) [5, 6] (itV (varM 1)) (aTup 2 (aCons (aName 5) (aCons (aName 6) aNil))) yesM (bin (cmpP .Lt) (varM 5) (varM 6))) nilM))))) (seqS (retS (cM (.bool false)))
  nextS) nextS)
  (seqS (forS (fun ρ => M.bind ((consM (varM 1) nilM) ρ) enM) (aTup 2 (aCons (aName 3) (aCons (aName 7) aNil))) (seqS (ifS (notM (tst (callP pAll (consM (lcG (fun xs => ret (.d (.list xs))) [8] (itV (slM (varM 1) (someO (bin pAdd2 (varM 3) (kI 1))) noO)) (aName 8) yesM (callF 2 (c "is_apart") (consM (varM 7) (consM (varM 8) nilM)))) nilM)))) (seqS (retS (cM (.bool false)))
  nextS) nextS)
  nextS))
  (seqS (retS (callP pAll (consM (lcG (fun xs => ret (.d (.list xs))) [4] (itR1 (callP (l1 pLenA1) (consM (varM 0) nilM))) (aName 4) yesM (bin (cmpP .LtE) (callP (l1 pLenA1) (consM (callF 2 (c "around_by") (consM (varM 1) (consM (varM 4) nilM))) nilM)) (kI 2))) nilM)))
  nextS))))
def b_are_jumps (c : Str → List Vl → M Vl) : S := (seqS (forS (fun ρ => M.bind ((consM (varM 0) nilM) ρ) enM) (aTup 2 (aCons (aName 2) (aCons (aName 3) aNil))) (seqS (ifS (bM (bin (cmpP .In) (bin pIxA2 (varM 3) (kI 0)) (cM (.tuple [(.str "test"), (.str "go")])))) (seqS (setS 4 (callF 2 (c "around_by") (consM (varM 1) (consM (varM 2) nilM))))
  (seqS (ifS (orM (bM (bin (cmpP .LtE) (bin pIxA2 (varM 3) (un pNeg1 (kI 1))) (varM 2))) (notM (tst (callP pAll (consM (lcG (fun xs => ret (.d (.list xs))) [5] (itV (callF 2 (c "around_by") (consM (varM 1) (consM (bin pIxA2 (varM 3) (un pNeg1 (kI 1))) nilM)))) (aName 5) yesM (bin (cmpP .In) (varM 5) (varM 4))) nilM))))) (seqS (retS (cM (.bool false)))
  nextS) nextS)
  nextS)) nextS)
  nextS))
  (seqS (retS (cM (.bool true)))
  nextS))
def b_are_rows (c : Str → List Vl → M Vl) : S := (seqS (ifS (orM (notM (tst (callP pIsi (consM (varM 1) (consM (tyM .tup) nilM))))) (notM (bM (chain (cmpP .LtE) (cmpP .LtE) (kI 1) (callP (l1 pLenA1) (consM (varM 1) nilM)) (kI 60))))) (seqS (retS (cM (.bool false)))
  nextS) nextS)
  (seqS (ifS (notM (tst (callP pAll (consM (lcG (fun xs => ret (.d (.list xs))) [2] (itV (varM 1)) (aName 2) yesM (callF 2 (c "is_row_within") (consM (varM 0) (consM (varM 2) nilM)))) nilM)))) (seqS (retS (cM (.bool false)))
  nextS) nextS)
  (seqS (ifS (bM (bin (cmpP .NotEq) (lcG (fun xs => ret (.d (.list xs))) [3, 2] (fun ρ => M.bind ((consM (varM 1) nilM) ρ) enM) (aTup 2 (aCons (aName 3) (aCons (aName 2) aNil))) (bM (bin (cmpP .Eq) (bin pIxA2 (varM 2) (kI 0)) (cM (.str "end")))) (varM 3)) (lstM (consM (bin pSub2 (callP (l1 pLenA1) (consM (varM 1) nilM)) (kI 1)) nilM)))) (seqS (retS (cM (.bool false)))
  nextS) nextS)
  (seqS (setS 4 (callF 1 (c "loops_by") (consM (varM 1) nilM)))
  (seqS (retS (andV (callF 2 (c "are_loops") (consM (varM 1) (consM (varM 4) nilM))) (callF 2 (c "are_jumps") (consM (varM 1) (consM (varM 4) nilM)))))
  nextS)))))
def b_is_code (c : Str → List Vl → M Vl) : S := (seqS (ifS (orM (notM (tst (callP pIsi (consM (varM 0) (consM (tyM .tup) nilM))))) (bM (bin (cmpP .NotEq) (callP (l1 pLenA1) (consM (varM 0) nilM)) (kI 5)))) (seqS (retS (cM (.bool false)))
  nextS) nextS)
  (seqS (asgS (aTup 5 (aCons (aName 1) (aCons (aName 2) (aCons (aName 3) (aCons (aName 4) (aCons (aName 5) aNil)))))) (varM 0))
  (seqS (ifS (orM (notM (tst (callP pIsi (consM (varM 1) (consM (tyM .tup) nilM))))) (orM (bM (bin (cmpP .Gt) (callP (l1 pLenA1) (consM (varM 1) nilM)) (kI 3))) (notM (tst (callP pAll (consM (lcG (fun xs => ret (.d (.list xs))) [6] (itV (varM 1)) (aName 6) yesM (callF 1 (c "is_span") (consM (varM 6) nilM))) nilM)))))) (seqS (retS (cM (.bool false)))
  nextS) nextS)
  (seqS (ifS (orM (notM (tst (callF 3 (c "is_between") (consM (varM 2) (consM (callP pMax (consM (kI 1) (consM (callP (l1 pLenA1) (consM (varM 1) nilM)) nilM))) (consM (kI 16) nilM)))))) (notM (tst (callF 3 (c "is_between") (consM (varM 3) (consM (kI 0) (consM (varM 2) nilM))))))) (seqS (retS (cM (.bool false)))
  nextS) nextS)
  (seqS (ifS (orM (notM (tst (callP pIsi (consM (varM 4) (consM (tyM .tup) nilM))))) (orM (bM (bin (cmpP .Gt) (callP (l1 pLenA1) (consM (varM 4) nilM)) (kI 2))) (notM (tst (callP pIsi (consM (varM 5) (consM (tyM .tup) nilM))))))) (seqS (retS (cM (.bool false)))
  nextS) nextS)
  (seqS (ifS (notM (tst (callP pAll (consM (lcG (fun xs => ret (.d (.list xs))) [7] (itV (varM 4)) (aName 7) yesM (callF 3 (c "is_between") (consM (varM 7) (consM (kI 1) (consM (kI 6) nilM))))) nilM)))) (seqS (retS (cM (.bool false)))
  nextS) nextS)
  (seqS (retS (callF 2 (c "are_rows") (consM (callF 3 (c "limits_of") (consM (varM 2) (consM (varM 4) (consM (varM 5) nilM)))) (consM (varM 5) nilM))))
  nextS)))))))
def b_need_code (c : Str → List Vl → M Vl) : S := (seqS (ifS (notM (tst (callF 1 (c "is_code") (consM (varM 0) nilM)))) (seqS (fun _ _ => .bad)
  nextS) nextS)
  nextS)
def b_need_row (c : Str → List Vl → M Vl) : S := (seqS (dropS (callF 1 (c "need_code") (consM (varM 0) nilM)))
  (seqS (ifS (notM (tst (callF 3 (c "is_between") (consM (varM 1) (consM (kI 0) (consM (bin pSub2 (callP (l1 pLenA1) (consM (bin pIxA2 (varM 0) (kI 4)) nilM)) (kI 1)) nilM)))))) (seqS (fun _ _ => .bad)
  nextS) nextS)
  nextS))
def b_loops_of (c : Str → List Vl → M Vl) : S := (seqS (dropS (callF 1 (c "need_code") (consM (varM 0) nilM)))
  (seqS (retS (callP pTuple (consM (callF 1 (c "loops_by") (consM (bin pIxA2 (varM 0) (kI 4)) nilM)) nilM)))
  nextS))
def b_around (c : Str → List Vl → M Vl) : S := (seqS (dropS (callF 2 (c "need_row") (consM (varM 0) (consM (varM 1) nilM))))
  (seqS (retS (callP pTuple (consM (callF 2 (c "around_by") (consM (callF 1 (c "loops_by") (consM (bin pIxA2 (varM 0) (kI 4)) nilM)) (consM (varM 1) nilM))) nilM)))
  nextS))
def b__law_loops (c : Str → List Vl → M Vl) : S := (seqS (setS 2 (lstC nilM))
  (seqS (forS (itR1 (callF 2 (c "_law_take") (consM (varM 0) (consM (kI 4) nilM)))) (aName 3) (seqS (ifS (bM (bin (cmpP .Gt) (varM 1) (kI 3))) (seqS (setS 4 (callF 2 (c "_law_take") (consM (varM 0) (consM (bin pSub2 (varM 1) (kI 2)) nilM))))
  (seqS (setS 5 (bin pAdd2 (bin pAdd2 (varM 4) (kI 1)) (callF 2 (c "_law_take") (consM (varM 0) (consM (bin pSub2 (bin pSub2 (varM 1) (kI 2)) (varM 4)) nilM)))))
  (seqS (setS 6 (lcG (fun xs => ret (.d (.list xs))) [7, 8] (itV (varM 2)) (aTup 2 (aCons (aName 7) (aCons (aName 8) aNil))) (orM (bM (bin (cmpP .Lt) (varM 5) (varM 7))) (orM (bM (bin (cmpP .Lt) (varM 8) (varM 4))) (orM (andM (bM (bin (cmpP .Lt) (varM 7) (varM 4))) (bM (bin (cmpP .Lt) (varM 5) (varM 8)))) (andM (bM (bin (cmpP .Lt) (varM 4) (varM 7))) (bM (bin (cmpP .Lt) (varM 8) (varM 5))))))) (kI 1)))
  (seqS (ifS (andM (bM (bin (cmpP .Lt) (callP (l1 pLenA1) (consM (varM 2) nilM)) (kI 2))) (bM (bin (cmpP .Eq) (callP (l1 pLenA1) (consM (varM 6) nilM)) (callP (l1 pLenA1) (consM (varM 2) nilM))))) (seqS (dropS (meth2 pAppend2 (varM 2) (tupM (consM (varM 4) (consM (varM 5) nilM)))))
  nextS) nextS)
  nextS)))) nextS)
  nextS))
  (seqS (retS (callP (l1 pSorted1) (consM (varM 2) nilM)))
  nextS)))
def b__law_around (c : Str → List Vl → M Vl) : S := (seqS (retS (lcG (fun xs => ret (.d (.list xs))) [2, 3] (itV (varM 0)) (aTup 2 (aCons (aName 2) (aCons (aName 3) aNil))) (bM (chain (cmpP .Lt) (cmpP .LtE) (varM 2) (varM 1) (varM 3))) (varM 2)))
  nextS)
def b__law_plain_row (c : Str → List Vl → M Vl) : S := (seqS (setS 3 (callF 2 (c "_law_take") (consM (varM 0) (consM (kI 9) nilM))))
  (seqS (parS [4, 5, 6] (consM (callF 2 (c "_law_take") (consM (varM 0) (consM (varM 1) nilM))) (consM (callF 2 (c "_law_take") (consM (varM 0) (consM (varM 1) nilM))) (consM (callF 2 (c "_law_take") (consM (varM 0) (consM (varM 1) nilM))) nilM))))
  (seqS (ifS (andM (bM (bin (cmpP .NotEq) (varM 2) (tupM nilM))) (bM (bin (cmpP .Lt) (varM 3) (kI 3)))) (seqS (setS 7 (callF 2 (c "_law_take") (consM (varM 0) (consM (callP (l1 pLenA1) (consM (varM 2) nilM)) nilM))))
  (seqS (retS (bin pIxA2 (lstM (consM (tupM (consM (cM (.str "get")) (consM (varM 4) (consM (varM 7) (consM (varM 5) nilM))))) (consM (tupM (consM (cM (.str "put")) (consM (varM 7) (consM (varM 5) (consM (varM 6) nilM))))) nilM))) (callF 2 (c "_law_take") (consM (varM 0) (consM (kI 2) nilM)))))
  nextS)) nextS)
  (seqS (ifS (bM (bin (cmpP .Lt) (varM 3) (kI 5))) (seqS (retS (tupM (consM (cM (.str "set")) (consM (varM 4) (consM (bin pIxA2 (lstM (consM (kI 0) (consM (kI 1) (consM (kI 255) (consM (callF 2 (c "_law_take") (consM (varM 0) (consM (kI 256) nilM))) nilM))))) (callF 2 (c "_law_take") (consM (varM 0) (consM (kI 4) nilM)))) nilM)))))
  nextS) nextS)
  (seqS (ifS (bM (bin (cmpP .Eq) (varM 3) (kI 5))) (seqS (retS (bin pIxA2 (lstM (consM (tupM (consM (cM (.str "copy")) (consM (varM 4) (consM (varM 5) nilM)))) (consM (tupM (consM (cM (.str "rest")) nilM)) nilM))) (bin pFdiv2 (callF 2 (c "_law_take") (consM (varM 0) (consM (kI 3) nilM))) (kI 2))))
  nextS) nextS)
  (seqS (retS (tupM (consM (bin pIxA2 (lstM (consM (cM (.str "*")) (consM (cM (.str "+")) (consM (cM (.str "-")) (consM (cM (.str "*")) (consM (cM (.str "<")) (consM (cM (.str "=")) nilM))))))) (callF 2 (c "_law_take") (consM (varM 0) (consM (kI 6) nilM)))) (consM (varM 4) (consM (varM 5) (consM (varM 6) nilM))))))
  nextS))))))
def b__law_code (c : Str → List Vl → M Vl) : S := (seqS (setS 2 (bin pAdd2 (kI 3) (callF 2 (c "_law_take") (consM (varM 0) (consM (bin pSub2 (varM 1) (kI 2)) nilM)))))
  (seqS (setS 3 (bin pAdd2 (kI 1) (callF 2 (c "_law_take") (consM (varM 0) (consM (kI 4) nilM)))))
  (seqS (setS 4 (lstC nilM))
  (seqS (forS (itR1 (callF 2 (c "_law_take") (consM (varM 0) (consM (callP pMin (consM (kI 3) (consM (bin pAdd2 (varM 3) (kI 1)) nilM))) nilM)))) (aName 5) (seqS (setS 6 (bin pIxA2 (lstM (consM (kI 0) (consM (kI 1) (consM (kI 254) (consM (callF 2 (c "_law_take") (consM (varM 0) (consM (kI 254) nilM))) nilM))))) (callF 2 (c "_law_take") (consM (varM 0) (consM (kI 4) nilM)))))
  (seqS (dropS (meth2 pAppend2 (varM 4) (tupM (consM (varM 6) (consM (bin pAdd2 (varM 6) (callF 2 (c "_law_take") (consM (varM 0) (consM (callP pMin (consM (kI 3) (consM (bin pSub2 (kI 256) (varM 6)) nilM))) nilM)))) nilM)))))
  nextS)))
  (seqS (setS 7 (callP pTuple (consM (lcG (fun xs => ret (.d (.list xs))) [5] (itR1 (callF 2 (c "_law_take") (consM (varM 0) (consM (kI 3) nilM)))) (aName 5) yesM (bin pAdd2 (kI 1) (callF 2 (c "_law_take") (consM (varM 0) (consM (kI 6) nilM))))) nilM)))
  (seqS (setS 8 (callF 2 (c "_law_loops") (consM (varM 0) (consM (varM 2) nilM))))
  (seqS (setS 9 (callP (l1 pDict1) (consM (lcG (fun xs => ret (.d (.list xs))) [10, 11] (itV (varM 8)) (aTup 2 (aCons (aName 10) (aCons (aName 11) aNil))) yesM (tupM (consM (varM 11) (consM (varM 10) nilM)))) nilM)))
  (seqS (setS 12 (lstC nilM))
  (seqS (forS (itR1 (bin pSub2 (varM 2) (kI 1))) (aName 13) (seqS (setS 14 (callF 2 (c "_law_around") (consM (varM 8) (consM (varM 13) nilM))))
  (seqS (setS 15 (lcG (fun xs => ret (.d (.list xs))) [16] (itR2 (bin pAdd2 (varM 13) (kI 1)) (varM 2)) (aName 16) (bM (bin (cmpP .Eq) (lcG (fun xs => ret (.d (.list xs))) [17] (itV (callF 2 (c "_law_around") (consM (varM 8) (consM (varM 16) nilM)))) (aName 17) (bM (bin (cmpP .NotIn) (varM 17) (varM 14))) (varM 17)) (lstM nilM))) (varM 16)))
  (seqS (ifS (bM (bin (cmpP .In) (varM 13) (lcG (fun xs => ret (.d (.list xs))) [10, 11] (itV (varM 8)) (aTup 2 (aCons (aName 10) (aCons (aName 11) aNil))) yesM (varM 10)))) (seqS (dropS (meth2 pAppend2 (varM 12) (tupM (consM (cM (.str "count")) (consM (bin pAdd2 (kI 1) (callF 2 (c "_law_take") (consM (varM 0) (consM (kI 3) nilM)))) nilM)))))
  nextS) (seqS (ifS (bM (bin (cmpP .In) (varM 13) (varM 9))) (seqS (dropS (meth2 pAppend2 (varM 12) (tupM (consM (cM (.str "again")) (consM (bin pAdd2 (bin pIxA2 (varM 9) (varM 13)) (kI 1)) nilM)))))
  nextS) (seqS (ifS (bM (bin (cmpP .Eq) (callF 2 (c "_law_take") (consM (varM 0) (consM (kI 4) nilM))) (kI 0))) (seqS (setS 18 (bin pIxA2 (varM 15) (bin pIxA2 (lstM (consM (callF 2 (c "_law_take") (consM (varM 0) (consM (callP (l1 pLenA1) (consM (varM 15) nilM)) nilM))) (consM (callF 2 (c "_law_take") (consM (varM 0) (consM (callP pMin (consM (kI 3) (consM (callP (l1 pLenA1) (consM (varM 15) nilM)) nilM))) nilM))) nilM))) (callF 2 (c "_law_take") (consM (varM 0) (consM (kI 2) nilM))))))
  (seqS (dropS (meth2 pAppend2 (varM 12) (bin pIxA2 (lstM (consM (tupM (consM (cM (.str "test")) (consM (callF 2 (c "_law_take") (consM (varM 0) (consM (varM 3) nilM))) (consM (varM 18) nilM)))) (consM (tupM (consM (cM (.str "go")) (consM (varM 18) nilM))) nilM))) (bin pFdiv2 (callF 2 (c "_law_take") (consM (varM 0) (consM (kI 4) nilM))) (kI 3)))))
  nextS)) (seqS (dropS (meth2 pAppend2 (varM 12) (callF 3 (c "_law_plain_row") (consM (varM 0) (consM (varM 3) (consM (varM 7) nilM))))))
  nextS))
  nextS))
  nextS))
  nextS))))
  (seqS (retS (tupM (consM (callP pTuple (consM (varM 4) nilM)) (consM (varM 3) (consM (callF 2 (c "_law_take") (consM (varM 0) (consM (bin pAdd2 (varM 3) (kI 1)) nilM))) (consM (varM 7) (consM (callP pTuple (consM (bin pAdd2 (varM 12) (lstM (consM (tupM (consM (cM (.str "end")) nilM)) nilM))) nilM)) nilM)))))))
  nextS))))))))))
end Iv
set_option Elab.async false
set_option linter.all false
set_option maxRecDepth 100000
set_option maxHeartbeats 4000000
/-! Lk6: what the defs about codes tell of sound ones. -/
namespace Iv
open PySem
structure CodeP (P : Pg) : Prop where
  take : HasB P "_law_take" 5 fun _ => takeB
  whole : HasB P "is_whole" 1 b_is_whole
  between : HasB P "is_between" 3 b_is_between
  span : HasB P "is_span" 2 b_is_span
  limits : HasB P "limits_of" 3 b_limits_of
  part : HasB P "is_part" 5 b_is_part
  row : HasB P "is_row_within" 7 b_is_row_within
  loopsBy : HasB P "loops_by" 3 b_loops_by
  aroundBy : HasB P "around_by" 4 b_around_by
  apart : HasB P "is_apart" 6 b_is_apart
  loops : HasB P "are_loops" 9 b_are_loops
  jumps : HasB P "are_jumps" 6 b_are_jumps
  rows : HasB P "are_rows" 5 b_are_rows
  code : HasB P "is_code" 8 b_is_code
section
variable {st : Sto} {ρ : Env} {P : Pg}
theorem ix_tuple {xs : List PyData} {k : Int} {d : PyData} {Q : Vl → Sto → Prop} (h : L2.atI xs k = some d) : OptQ (pIxA2 (.d (.tuple xs)) (.d (.int k)) st) Q = Q (.d d) st := by
  unfold pIxA2
  simp only [asK, pIx2, asQ, asT, Option.some_or, Option.bind_some, h, Option.map_some]
  rfl
theorem oq_eqI {i j : Int} {Q : Vl → Sto → Prop} : OptQ (cmpP .Eq (.d (.int i)) (.d (.int j)) st) Q = Q (.d (.bool (decide (i = j)))) st := by
  rw [oq_eqD (by rfl), eqv_int]
theorem oq_neI {i j : Int} {Q : Vl → Sto → Prop} : OptQ (cmpP .NotEq (.d (.int i)) (.d (.int j)) st) Q = Q (.d (.bool (!decide (i = j)))) st := by
  rw [oq_neD (by rfl), eqv_int]
theorem bools_all {α : Type} {xs : List α} {p : α → Bool} : bools (xs.map fun x => .bool (p x)) = some (xs.map p) := by
  induction xs with
  | nil => rfl
  | cons x xs ih => simp only [List.map_cons, bools, ih]; rfl
theorem oq_all {α : Type} {xs : List α} {p : α → Bool} {Q : Vl → Sto → Prop} : OptQ (pAll [.d (.list (xs.map fun x => .bool (p x)))] st) Q = Q (.d (.bool (xs.all p))) st := by
  show OptQ (pAll1 (.d (.list (xs.map fun x => .bool (p x)))) st) Q = _
  unfold pAll1
  simp only [asL, Option.bind_some, bools_all, Option.map_some]
  rw [oq_some, List.all_map]
  rfl
theorem span_wp (C : CodeP P) {m : Nat} (hm : 2 < m) {a b : Int} {Q : Vl → Sto → Prop} (h1 : 0 ≤ a) (h2 : a ≤ b) (h3 : b ≤ 255) (h : Q (.d (.bool true)) st) : Wp (callN P m "is_span" [.d (.tuple [.int a, .int b])]) st Q := by
  refine C.span.wp (k := 2) hm fun m' hm' => ?_
  show SWp _ [some (.d (.tuple [.int a, .int b])), none] st _ _
  unfold b_is_span
  simp only [sw_seq, sw_if, wp_orM, wp_notM, wp_tst, wp_callP, wp_cons, wp_v0, wp_ty, wp_nil, oq_isi .tup (by decide), wp_trub, wp_bM, wp_bin, len_tuple, wp_cM, oq_neI, wp_asB]
  rw [if_neg (by simp [tyD, isi]), if_neg (by simp), sw_next]
  simp only [sw_ret, wp_andV, wp_callP, wp_cons]
  refine wp_lcP (xs := [.int a, .int b]) (fun _ => true) (fun d => .bool (betweenD d 0 255)) (it_tuple (by rw [wp_v0]; exact ⟨rfl, rfl⟩)) (show 2 ≤ sizeLine by decide) (fun d hd => ⟨[some (.d (.tuple [.int a, .int b])), some (.d d)], rfl, ?_⟩) ?_
  · show Wp (ret true) st _
    rw [wp_ret]
    refine ⟨rfl, rfl, fun _ => ?_⟩
    rw [wp_callF, wp_cons, wp_vs, wp_v0, wp_cons, wp_cM, wp_cons, wp_cM, wp_nil, wp_g3]
    exact between_wp C.whole C.between (by omega) ⟨rfl, rfl⟩
  · rw [wp_ret, wp_nil]
    have e : (([.int a, .int b] : List PyData).filter fun _ => true).map (fun d => PyData.bool (betweenD d 0 255)) = ([.int a, .int b] : List PyData).map fun d => .bool (betweenD d 0 255) := rfl
    rw [e, oq_all, wp_trub]
    have t : ([.int a, .int b] : List PyData).all (fun d => betweenD d 0 255) = true := by
      simp [betweenD]; omega
    rw [if_pos t, wp_bin, wp_bin, wp_v0, wp_cM, ix_tuple (d := .int a) rfl, wp_bin, wp_v0, wp_cM, ix_tuple (d := .int b) rfl, oq_le, back_d, List.take_length, decide_eq_true h2]
    exact h
/-! ### rows -/
def AsgQ (m : Asg) (v : Vl) (ρ : Env) (Q : Env → Prop) : Prop := match v with
  | .d d => match m d ρ with
    | some ρ' => Q ρ'
    | none => False
  | _ => False
theorem asgQ_of {m : Asg} {d : PyData} {ρ' : Env} {Q : Env → Prop} (h : m d ρ = some ρ') : AsgQ m (.d d) ρ Q = Q ρ' := by
  unfold AsgQ
  simp only [h]
theorem sw_asg {m : Asg} {f : Env → M Vl} {N : Env → Sto → Prop} {R : Vl → Sto → Prop} : SWp (asgS m f) ρ st N R = Wp (f ρ) st fun v st' => AsgQ m v ρ fun ρ' => N ρ' st' := by
  unfold asgS
  rw [sw_bind]
  congr 1
  funext v st'
  unfold SWp AsgQ
  cases v with
  | d d => dsimp only; cases m d ρ <;> rfl
  | ref n => rfl
  | gl x => rfl
  | ty t => rfl
theorem ix_dict {kvs : DKv} {k : Str} {d : PyData} {Q : Vl → Sto → Prop} (h : lookK kvs (.inr k) = some d) : OptQ (pIxA2 (.d (.dict kvs)) (.d (.str k)) st) Q = Q (.d d) st := by
  unfold pIxA2
  simp only [asK, kyOf, keyOf, Option.bind_some, h, Option.map_some]
  rfl
theorem part_wp (C : CodeP P) {m : Nat} (hm : 2 < m) {kvs : DKv} {k : Str} {d : PyData} {lo hi : Int} {Q : Vl → Sto → Prop} (hk : lookK kvs (.inr k) = some (.tuple [.int lo, .int hi])) (h : Q (.d (.bool (betweenD d lo hi))) st) :
    Wp (callN P m "is_part" [.d (.dict kvs), .d (.str k), .d d]) st Q := by
  refine C.part.wp (k := 2) hm fun m' hm' => ?_
  show SWp _ [some (.d (.dict kvs)), some (.d (.str k)), some (.d d), none, none] st _ _
  unfold b_is_part
  rw [sw_seq, sw_asg, wp_bin, wp_v0, wp_vs, wp_v0, ix_dict hk, asgQ_of (ρ' := [some (.d (.dict kvs)), some (.d (.str k)), some (.d d), some (.d (.int lo)), some (.d (.int hi))]) rfl]
  rw [sw_seq, sw_ret, wp_callF, wp_cons, wp_vs, wp_vs, wp_v0, wp_cons, wp_vs, wp_vs, wp_vs, wp_v0, wp_cons, wp_vs, wp_vs, wp_vs, wp_vs, wp_v0, wp_nil, wp_g3]
  refine between_wp C.whole C.between (by omega) ?_
  rw [back_d, List.take_length]
  exact h
/-- a row: its word, its parts -/
abbrev Row := Str × List Int
def rowD (r : Row) : PyData := .tuple (.str r.1 :: r.2.map .int)
def RowOk (kvs : DKv) (r : Row) : Prop := ∃ kinds : List Str, tab_FORMS.lookup r.1 = some (.d (.tuple (kinds.map .str))) ∧ r.2.length = kinds.length ∧ r.2.length ≤ 10 ∧
  ∀ q ∈ r.2.zip kinds, ∃ lo hi : Int, lookK kvs (.inr q.2) = some (.tuple [.int lo, .int hi]) ∧ lo ≤ q.1 ∧ q.1 ≤ hi
theorem zp_map {xs : List Int} {ys : List Str} : zpD (xs.map .int) (ys.map .str) = (xs.zip ys).map fun q => .tuple [.int q.1, .str q.2] := by
  unfold zpD
  rw [List.zip_map, List.map_map]
  rfl
theorem len_listI {xs : List PyData} {Q : Vl → Sto → Prop} : OptQ (l1 pLenA1 [.d (.list xs)] st) Q = Q (.d (.int xs.length)) st := rfl
theorem row_wp (C : CodeP P) {m : Nat} (hm : 3 < m) {kvs : DKv} {r : Row} {Q : Vl → Sto → Prop} (hr : RowOk kvs r) (h : Q (.d (.bool true)) st) : Wp (callN P m "is_row_within" [.d (.dict kvs), .d (rowD r)]) st Q := by
  obtain ⟨w, ps⟩ := r
  obtain ⟨kinds, h1, h2, h3, h4⟩ := hr
  refine C.row.wp (k := 3) hm fun m' hm' => ?_
  have hd : rowD (w, ps) = .tuple (.str w :: ps.map .int) := rfl
  rw [hd]
  generalize hps : ps.map PyData.int = pd
  show SWp _ [some (.d (.dict kvs)), some (.d (.tuple (.str w :: pd))), none, none, none, none, none] st _ _
  have hi : OptQ (pInD2 true "FORMS" tab_FORMS (.d (.str w)) (.gl "FORMS") st) = fun Q => Q (.d (.bool false)) st := by
    funext Q
    simp only [pInD2, if_true, h1, Option.isSome_some, Bool.xor_true, Bool.not_true]
    rfl
  have ix0 : ∀ Q, OptQ (pIxA2 (.d (.tuple (.str w :: pd))) (.d (.int 0)) st) Q = Q (.d (.str w)) st := fun Q => by
    refine ix_tuple ?_
    unfold L2.atI L2.ixN
    rw [if_pos (by decide), if_pos (by simp)]
    rfl
  unfold b_is_row_within
  simp only [sw_seq, sw_if, wp_orM, wp_notM, wp_tst, wp_callP, wp_cons, wp_vs, wp_v0, wp_ty, wp_nil, oq_isi .tup (by decide), wp_trub, wp_bM, wp_bin, len_tuple, wp_cM, oq_eqI, wp_asB, ix0, oq_isi .str (by decide), wp_gl, hi]
  rw [if_neg (by simp [tyD, isi]), if_neg (by simp; omega), if_neg (by simp [tyD, isi]), if_neg (by simp), sw_next]
  have star : aStar 2 1 (aCons (aName 2) (aCons (aName 3) aNil)) (.tuple (.str w :: pd)) [some (.d (.dict kvs)), some (.d (.tuple (.str w :: pd))), none, none, none, none, none] =
      some [some (.d (.dict kvs)), some (.d (.tuple (.str w :: pd))), some (.d (.str w)), some (.d (.list pd)), none, none, none] := by
    have hl : pd.length ≤ 10 := by rw [← hps, List.length_map]; exact h3
    unfold aStar
    simp only [List.length_cons]
    rw [if_pos ⟨by decide, by omega, by omega⟩]
    have e1 : pd.length + 1 + 1 - 2 = pd.length := by omega
    simp only [List.take_succ_cons, List.take_zero, List.drop_succ_cons, List.drop_zero, e1, List.take_length, List.drop_length, List.append_nil]
    rfl
  have hx : ∀ Q, OptQ (pIxD2 "FORMS" tab_FORMS (.gl "FORMS") (.d (.str w)) st) Q = Q (.d (.tuple (kinds.map .str))) st := fun Q => by
    simp only [pIxD2, if_true, h1, Option.map_some]
    rfl
  rw [sw_asg, wp_vs, wp_v0, asgQ_of star]
  simp only [sw_set, wp_bin, wp_gl, wp_vs, wp_v0, hx, List.set_cons_succ, List.set_cons_zero, sw_if, wp_bM, wp_callP, wp_cons, wp_nil, len_listI, len_tuple, oq_neI, wp_asB]
  rw [if_neg (by rw [← hps]; simp [h2]), sw_next]
  simp only [sw_ret, wp_callP, wp_cons]
  have zl : zpD pd (kinds.map .str) = (ps.zip kinds).map fun q => .tuple [.int q.1, .str q.2] := by rw [← hps]; exact zp_map
  refine wp_lc (xs := zpD pd (kinds.map .str)) (it_zp (a := .d (.list pd)) (c := .d (.tuple (kinds.map .str))) (xs := pd) (ys := kinds.map .str) (by rw [wp_cons, wp_vs, wp_vs, wp_vs, wp_v0, wp_cons, wp_vs, wp_vs, wp_vs, wp_vs, wp_v0, wp_nil]; exact ⟨rfl, rfl⟩) (fun _ => rfl) (fun _ => rfl)) (fun i acc st' => st' = st ∧ i ≤ 10 ∧ acc = (List.range i).map fun _ => .bool true) ⟨rfl, by decide, rfl⟩ (fun i d e acc st' hI => ?_) fun acc st' hI => ?_
  · obtain ⟨rfl, hi10, rfl⟩ := hI
    rw [zl, List.getElem?_map] at e
    obtain ⟨q, e1, rfl⟩ := Option.map_eq_some_iff.mp e
    have hq := List.mem_of_getElem? e1
    have hlt := (List.getElem?_eq_some_iff.mp e1).1
    rw [List.length_zip] at hlt
    obtain ⟨lo, hi', q1, q2, q3⟩ := h4 q hq
    refine ⟨[some (.d (.dict kvs)), some (.d (.tuple (.str w :: pd))), some (.d (.str w)), some (.d (.list pd)), some (.d (.tuple (kinds.map .str))), some (.d (.int q.1)), some (.d (.str q.2))], rfl, ?_⟩
    show Wp (ret true) _ _
    rw [wp_ret, if_pos rfl, wp_callF, wp_cons, wp_v0, wp_cons]
    simp only [wp_vs, wp_v0, wp_cons, wp_nil, wp_g3]
    refine part_wp C (by omega) q1 ?_
    rw [wp_frzD]
    have hb : betweenD (.int q.1) lo hi' = true := by simp [betweenD, q2, q3]
    rw [hb]
    refine ⟨by rw [List.length_map, List.length_range, sizeLine_eq]; omega, rfl, by omega, ?_⟩
    rw [List.range_succ, List.map_append]
    rfl
  · obtain ⟨rfl, hi10, rfl⟩ := hI
    rw [wp_ret, wp_nil, oq_all, back_d, List.take_length]
    have : ((List.range (zpD pd (kinds.map .str)).length).all fun _ => true) = true := by simp
    rw [this]
    exact h
end
end Iv
set_option Elab.async false
set_option linter.all false
set_option maxRecDepth 100000
set_option maxHeartbeats 4000000
/-! Lk7: loops of rows, the loops around a row. -/
namespace Iv
open PySem
abbrev sAgain : Str := "again"
abbrev Pr2 := Int × Int
def pairD (p : Pr2) : PyData := .tuple [.int p.1, .int p.2]
def pairsL (l : List Pr2) : PyData := .list (l.map pairD)
def rowsD (rows : List Row) : PyData := .tuple (rows.map rowD)
/-- the agains: where each goes to less one, where it stands -/
def agL (rows : List Row) : List Pr2 := (rows.zipIdx.filter fun q => decide (q.1.1 = sAgain)).map fun q => (q.1.2.headD 0 - 1, (q.2 : Int))
def le2 (p q : Pr2) : Bool := decide (p.1 < q.1 ∨ (p.1 = q.1 ∧ p.2 ≤ q.2))
def sort2 (l : List Pr2) : List Pr2 := l.mergeSort le2
def loopsL (rows : List Row) : List Pr2 := sort2 (agL rows)
/-- an again has where it goes to -/
def AgOk (rows : List Row) : Prop := ∀ r ∈ rows, PyData.strOk r.1 = true ∧ (r.1 = sAgain → ∃ t, r.2 = [t])
theorem sortD_pairs (l : List Pr2) : sortD (l.map pairD) = (sort2 l).map pairD := by
  unfold sortD sort2
  symm
  refine List.map_mergeSort fun a _ b _ => ?_
  have h : (PySem.W.dataLe false fun b : Pr2 => PyData.tuple [.int b.1, .int b.2]) = fun p q => decide (p.1 < q.1 ∨ (p.1 = q.1 ∧ p.2 ≤ q.2)) := PySem.W.dataLe_ii (fun p : Pr2 => p.1) (fun p : Pr2 => p.2)
  have h2 := congrFun (congrFun h a) b
  show le2 a b = PySem.W.dataLe false (fun d : PyData => d) (pairD a) (pairD b)
  rw [le2, ← h2]
  rfl
theorem sortOk_pairs {l : List Pr2} (h : l.length ≤ sizeLine) : sortOk (l.map pairD) = true := by
  unfold sortOk allAlikeB
  simp only [Bool.and_eq_true, Bool.or_eq_true, decide_eq_true_eq, List.all_eq_true, List.length_map]
  refine ⟨fun d hd e he => ?_, .inl fun d hd => ?_, h, fun d hd => ?_⟩
  · obtain ⟨p, _, rfl⟩ := List.mem_map.mp hd
    obtain ⟨q, _, rfl⟩ := List.mem_map.mp he
    simp [PySem.W.alike, PySem.W.alikeAll, pairD]
  · obtain ⟨p, _, rfl⟩ := List.mem_map.mp hd
    rfl
  · obtain ⟨p, _, rfl⟩ := List.mem_map.mp hd
    refine ⟨rfl, ?_⟩
    simp [pairD, PyData.depth, PyData.depthAll]
section
variable {st : Sto} {ρ : Env} {P : Pg}
theorem eqv_str {i j : Str} : PyData.eqv (.str i) (.str j) = decide (i = j) := by first | rfl | simp [PyData.eqv] | (simp [PyData.eqv]; rfl)
theorem oq_eqS {i j : Str} {Q : Vl → Sto → Prop} (hi : PyData.strOk i = true) (hj : PyData.strOk j = true) : OptQ (cmpP .Eq (.d (.str i)) (.d (.str j)) st) Q = Q (.d (.bool (decide (i = j)))) st := by
  rw [oq_eqD (by simp [eqOk, PyData.canLay0, PyData.depth, hi, hj]), eqv_str]
theorem enD_rows (rows : List Row) : enD (rows.map rowD) = rows.zipIdx.map fun q => .tuple [.int (q.2 : Nat), rowD q.1] := by
  unfold enD
  rw [List.zipIdx_map, List.map_map]
  rfl
theorem oq_sortedP {l : List Pr2} {Q : Vl → Sto → Prop} (h : l.length ≤ sizeLine) : OptQ (l1 pSorted1 [.d (pairsL l)] st) Q = Q (.d (pairsL (sort2 l))) st := by
  show OptQ (pSorted1 (.d (.list (l.map pairD))) st) Q = _
  unfold pSorted1
  simp only [asL, Option.bind_some, if_pos (sortOk_pairs h), sortD_pairs]
  rfl
theorem atS {xs : List PyData} {d : PyData} : L2.atI (d :: xs) 0 = some d := by
  unfold L2.atI L2.ixN
  rw [if_pos (by decide), if_pos (by simp)]
  rfl
theorem at1S {xs : List PyData} {d e : PyData} : L2.atI (e :: d :: xs) 1 = some d := by
  unfold L2.atI L2.ixN
  rw [if_pos (by decide), if_pos (by simp only [List.length_cons]; omega)]
  rfl
theorem loopsX_wp {x : Str} (H : HasB P x 3 b_loops_by) {m : Nat} (hm : 0 < m) {rows : List Row} {Q : Vl → Sto → Prop} (ok : AgOk rows) (hz : rows.length ≤ 1000) (h : Q (.d (pairsL (loopsL rows))) st) : Wp (callN P m x [.d (rowsD rows)]) st Q := by
  refine H.wp (k := 0) hm fun m' hm' => ?_
  show SWp _ [some (.d (rowsD rows)), none, none] st _ _
  unfold b_loops_by
  simp only [sw_seq, sw_ret, wp_callP, wp_cons]
  have hl : (agL rows).length ≤ sizeLine := by
    unfold agL
    rw [List.length_map]
    refine Nat.le_trans (List.length_filter_le _ _) ?_
    rw [List.length_zipIdx, sizeLine_eq]
    omega
  refine wp_lc (xs := enD (rows.map rowD)) (it_en (a := .d (rowsD rows)) (xs := rows.map rowD) (by rw [wp_cons, wp_v0, wp_nil]; exact ⟨rfl, rfl⟩) fun _ => rfl) (fun i acc st' => st' = st ∧ acc.length ≤ i ∧ acc = ((((rows.zipIdx.take i).filter fun q => decide (q.1.1 = sAgain)).map fun q => (q.1.2.headD 0 - 1, (q.2 : Int))).map pairD)) ⟨rfl, by simp, by simp⟩ (fun i d e acc st' hI => ?_) fun acc st' hI => ?_
  · obtain ⟨rfl, hacc, rfl⟩ := hI
    rw [enD_rows, List.getElem?_map] at e
    obtain ⟨⟨⟨w, ps⟩, j⟩, e1, rfl⟩ := Option.map_eq_some_iff.mp e
    have hmem : (w, ps) ∈ rows := by
      have := List.mem_of_getElem? e1
      have := List.mem_zipIdx this
      obtain ⟨_, _, h3⟩ := this
      rw [h3]
      exact List.getElem_mem _
    have hlt := (List.getElem?_eq_some_iff.mp e1).1
    rw [List.length_zipIdx] at hlt
    have tk : rows.zipIdx.take (i + 1) = rows.zipIdx.take i ++ [((w, ps), j)] := by rw [List.take_add_one, e1]; rfl
    refine ⟨[some (.d (rowsD rows)), some (.d (.int (j : Nat))), some (.d (rowD (w, ps)))], rfl, ?_⟩
    have hrd : rowD (w, ps) = .tuple (.str w :: ps.map .int) := rfl
    have hso := (ok _ hmem).1
    simp only [wp_bM, wp_bin, wp_vs, wp_v0, wp_cM, hrd, ix_tuple atS, oq_eqS hso (show PyData.strOk "again" = true by decide +kernel), wp_asB]
    by_cases hw : w = sAgain
    · obtain ⟨t, ht⟩ := (ok _ hmem).2 hw
      have ht' : ps = [t] := ht
      subst ht'
      rw [if_pos (decide_eq_true hw)]
      have i1 : ∀ Q : Vl → Sto → Prop, OptQ (pIxA2 (.d (.tuple (.str w :: ([t].map PyData.int)))) (.d (.int 1)) st') Q = Q (.d (.int t)) st' := fun Q => ix_tuple at1S
      simp only [wp_tupM, wp_cons, wp_bin, wp_vs, wp_v0, wp_cM, i1, oq_sub, wp_nil]
      have fz : ∀ Q : List PyData → Sto → Prop, Wp (frzsM [.d (.int (t - 1)), .d (.int (j : Nat))]) st' Q = Q [.int (t - 1), .int (j : Nat)] st' := fun Q => wp_frzs (xs := [.int (t - 1), .int (j : Nat)])
      rw [fz, wp_retT (xs := [.int (t - 1), .int (j : Nat)]) (show 2 ≤ sizeLine by decide), wp_frzD]
      refine ⟨by rw [sizeLine_eq]; omega, rfl, by rw [List.length_append]; simp only [List.length_singleton]; omega, ?_⟩
      rw [tk, List.filter_append, List.map_append, List.map_append]
      simp [hw, pairD]
    · rw [if_neg (by simpa using hw)]
      refine ⟨by trivial, by omega, ?_⟩
      rw [tk, List.filter_append, List.map_append, List.map_append]
      simp [hw]
  · obtain ⟨rfl, hacc, rfl⟩ := hI
    have hlen : (enD (rows.map rowD)).length = rows.zipIdx.length := by rw [enD_len, List.length_map, List.length_zipIdx]
    rw [hlen, List.take_length, wp_ret, wp_nil]
    have e2 := oq_sortedP (st := st') (l := agL rows) (Q := fun v st'' => Back st'.length v st'' Q) hl
    rw [show (PyData.list (((rows.zipIdx.filter fun q => decide (q.1.1 = sAgain)).map fun q => (q.1.2.headD 0 - 1, (q.2 : Int))).map pairD)) = pairsL (agL rows) from rfl, e2, back_d, List.take_length]
    exact h
theorem loopsBy_wp (C : CodeP P) {m : Nat} (hm : 0 < m) {rows : List Row} {Q : Vl → Sto → Prop} (ok : AgOk rows) (hz : rows.length ≤ 1000) (h : Q (.d (pairsL (loopsL rows))) st) : Wp (callN P m "loops_by" [.d (rowsD rows)]) st Q := loopsX_wp C.loopsBy hm ok hz h
/-! ### around -/
def aroundL (l : List Pr2) (row : Int) : List Int := (l.filter fun p => decide (p.1 < row ∧ row ≤ p.2)).map (·.1)
theorem oq_chain {a b c : Int} {st : Sto} : True := trivial
theorem around_run {c : Str → List Vl → M Vl} {l : List Pr2} {row : Int} {Q : Vl → Sto → Prop} (hz : l.length ≤ 1000) (h : Q (.d (.list ((aroundL l row).map .int))) st) :
    SWp (b_around_by c) (env0 4 [.d (pairsL l), .d (.int row)]) st (fun _ st' => Back st.length (.d .none) st' Q) (fun v st' => Back st.length v st' Q) := by
  show SWp _ [some (.d (pairsL l)), some (.d (.int row)), none, none] st _ _
  unfold b_around_by
  simp only [sw_seq, sw_ret]
  refine wp_lc (xs := l.map pairD) (it_list (xs := l.map pairD) (by rw [wp_v0]; exact ⟨rfl, rfl⟩)) (fun i acc st' => st' = st ∧ acc.length ≤ i ∧ acc = (((l.take i).filter fun p => decide (p.1 < row ∧ row ≤ p.2)).map (·.1)).map PyData.int) ⟨rfl, by simp, by simp⟩ (fun i d e acc st' hI => ?_) fun acc st' hI => ?_
  · obtain ⟨rfl, hacc, rfl⟩ := hI
    rw [List.getElem?_map] at e
    obtain ⟨⟨p, q⟩, e1, rfl⟩ := Option.map_eq_some_iff.mp e
    have hlt := (List.getElem?_eq_some_iff.mp e1).1
    have tk : l.take (i + 1) = l.take i ++ [(p, q)] := by rw [List.take_add_one, e1]; rfl
    refine ⟨[some (.d (pairsL l)), some (.d (.int row)), some (.d (.int p)), some (.d (.int q))], rfl, ?_⟩
    simp only [wp_bM, wp_chain, wp_vs, wp_v0, oq_lt, oq_le, wp_asB]
    by_cases h1 : p < row
    · rw [if_pos (decide_eq_true h1)]
      by_cases h2 : row ≤ q
      · rw [if_pos (decide_eq_true h2), wp_frzD]
        refine ⟨by rw [sizeLine_eq]; omega, rfl, by rw [List.length_append]; simp only [List.length_singleton]; omega, ?_⟩
        rw [tk, List.filter_append, List.map_append, List.map_append]
        simp [h1, h2]
      · rw [if_neg (by simpa using h2)]
        refine ⟨by trivial, by omega, ?_⟩
        rw [tk, List.filter_append, List.map_append, List.map_append]
        simp [h1, h2]
    · rw [if_neg (by simpa using h1), if_neg (by decide)]
      refine ⟨by trivial, by omega, ?_⟩
      rw [tk, List.filter_append, List.map_append, List.map_append]
      simp [h1]
  · obtain ⟨rfl, hacc, rfl⟩ := hI
    rw [List.length_map, List.take_length, wp_ret, back_d, List.take_length]
    exact h
theorem around_wp (C : CodeP P) {m : Nat} (hm : 0 < m) {l : List Pr2} {row : Int} {Q : Vl → Sto → Prop} (hz : l.length ≤ 1000) (h : Q (.d (.list ((aroundL l row).map .int))) st) : Wp (callN P m "around_by" [.d (pairsL l), .d (.int row)]) st Q :=
  C.aroundBy.wp (k := 0) hm fun m' hm' => around_run hz h
end
end Iv
set_option Elab.async false
set_option linter.all false
set_option maxRecDepth 100000
set_option maxHeartbeats 4000000
/-! Lk8: loops that lie apart. -/
namespace Iv
open PySem
theorem le2_total (a b : Pr2) : (le2 a b || le2 b a) = true := by
  unfold le2
  simp only [Bool.or_eq_true, decide_eq_true_eq]
  omega
theorem le2_trans (a b c : Pr2) (h1 : le2 a b = true) (h2 : le2 b c = true) : le2 a c = true := by
  unfold le2 at *
  simp only [decide_eq_true_eq] at *
  omega
theorem sort2_two {p q : Pr2} (h : le2 p q = true) : sort2 [p, q] = [p, q] := by
  unfold sort2
  exact List.mergeSort_of_pairwise (by simpa using h)
def apartB (p q : Pr2) : Bool := decide (p.2 < q.1 ∨ (p.1 < q.1 ∧ q.2 < p.2))
section
variable {st : Sto} {ρ : Env} {P : Pg}
theorem apart_wp (C : CodeP P) {m : Nat} (hm : 0 < m) {p q : Pr2} {Q : Vl → Sto → Prop} (hle : le2 p q = true) (h : Q (.d (.bool (apartB p q))) st) : Wp (callN P m "is_apart" [.d (pairD p), .d (pairD q)]) st Q := by
  refine C.apart.wp (k := 0) hm fun m' hm' => ?_
  obtain ⟨a, b⟩ := p
  obtain ⟨c, d⟩ := q
  show SWp _ [some (.d (pairD (a, b))), some (.d (pairD (c, d))), none, none, none, none] st _ _
  unfold b_is_apart
  simp only [sw_seq, sw_asg, wp_callP, wp_lstM, wp_cons, wp_v0, wp_vs, wp_nil]
  have fz : ∀ Q : List PyData → Sto → Prop, Wp (frzsM [.d (pairD (a, b)), .d (pairD (c, d))]) st Q = Q [pairD (a, b), pairD (c, d)] st := fun Q => wp_frzs (xs := [pairD (a, b), pairD (c, d)])
  have two : ([(a, b), (c, d)] : List Pr2).length ≤ sizeLine := by show 2 ≤ sizeLine; decide
  rw [fz, wp_retL (xs := [pairD (a, b), pairD (c, d)]) (show 2 ≤ sizeLine by decide), show (PyData.list [pairD (a, b), pairD (c, d)]) = pairsL [(a, b), (c, d)] from rfl, oq_sortedP two, sort2_two hle]
  rw [asgQ_of (ρ' := [some (.d (pairD (a, b))), some (.d (pairD (c, d))), some (.d (.int a)), some (.d (.int b)), some (.d (.int c)), some (.d (.int d))]) rfl]
  simp only [sw_ret, wp_orV, wp_andV, wp_bin, wp_vs, wp_v0, oq_lt, wp_trub, back_d, List.take_length]
  have e : apartB (a, b) (c, d) = (decide (b < c) || (decide (a < c) && decide (d < b))) := by simp [apartB]
  rw [e] at h
  by_cases h1 : b < c
  · simpa [h1] using h
  · by_cases h2 : a < c
    · simpa [h1, h2] using h
    · simpa [h1, h2] using h
end
end Iv
set_option Elab.async false
set_option linter.all false
set_option maxRecDepth 100000
set_option maxHeartbeats 4000000
/-! Wa1: rules that run by themselves. -/
namespace Iv
open PySem
/-! ### texts -/
theorem ofS_inj {s t : String} : (Str.ofString s = Str.ofString t) = (s = t) := by
  apply propext
  constructor
  · intro h
    rw [Str.ofString_eq_toList, Str.ofString_eq_toList] at h
    have h1 : s.toList.map Char.toNat = t.toList.map Char.toNat := by
      have := congrArg (fun x : Str => x.cps.toList) h
      simpa using this
    have h2 : s.toList = t.toList := by
      have inj : ∀ a b : List Char, a.map Char.toNat = b.map Char.toNat → a = b := by
        intro a
        induction a with
        | nil => intro b e; cases b with
          | nil => rfl
          | cons _ _ => cases e
        | cons x a ih => intro b e; cases b with
          | nil => cases e
          | cons y b =>
            simp only [List.map_cons, List.cons.injEq] at e
            rw [ih b e.2, Char.ext (UInt32.toNat_inj.mp e.1)]
      exact inj _ _ h1
    exact String.ext_iff.mpr h2
  · intro h; rw [h]
theorem strOk_ofS (s : String) : PyData.strOk (Str.ofString s) = true := by
  rw [Str.ofString_eq_toList]
  unfold PyData.strOk
  simp only [List.all_toArray', List.all_eq_true, List.mem_map, decide_eq_true_eq]
  rintro x ⟨c, _, rfl⟩
  have := c.valid
  show c.val.toNat < _
  have e : c.val.toNat.isValidChar := this
  rcases e with h | ⟨_, h⟩ <;> omega
/-- nothing is changed, a comes of it -/
def Is {α : Type} (m : M α) (st : Sto) (a : α) : Prop := m st = .ok a st
theorem Is.wp {α : Type} {m : M α} {st : Sto} {a : α} (h : Is m st a) {Q : α → Sto → Prop} : Wp m st Q = Q a st := wp_of_eq h
theorem is_of {α : Type} {m : M α} {st : Sto} {a : α} (h : Wp m st fun v s => v = a ∧ s = st) : Is m st a := by
  unfold Wp at h
  unfold Is
  cases e : m st with
  | ok v s => rw [e] at h; obtain ⟨rfl, rfl⟩ := h; rfl
  | ex x s => rw [e] at h; exact h.elim
  | bad => rw [e] at h; exact h.elim
theorem is_iff {α : Type} {m : M α} {st : Sto} {a : α} : Is m st a ↔ Wp m st fun v s => v = a ∧ s = st := ⟨fun h => by rw [h.wp]; exact ⟨rfl, rfl⟩, is_of⟩
/-- a def that changes nothing -/
theorem HasB.is {P : Pg} {x : Str} {n k m : Nat} {b : (Str → List Vl → M Vl) → S} (h : HasB P x n b) {as : List Vl} {st : Sto} {v : Vl} (hm : k < m)
    (g : ∀ m', k ≤ m' → SWp (b (callN P m')) (env0 n as) st (fun _ st' => Back st.length (.d .none) st' fun v' s => v' = v ∧ s = st) (fun v' st' => Back st.length v' st' fun v' s => v' = v ∧ s = st)) : Is (callN P m x as) st v :=
  is_of (h.wp hm g)
section
variable {st : Sto} {ρ : Env} {N : Env → Sto → Prop} {R : Vl → Sto → Prop}
theorem back_take {x : PyData} {Q : Vl → Sto → Prop} : Back st.length (.d x) st Q = Q (.d x) st := by rw [back_d, List.take_length]
theorem back_set {x : PyData} {r : Nat} {c : Cell} {Q : Vl → Sto → Prop} : Back st.length (.d x) (st.set r c) Q = Q (.d x) (st.set r c) := by
  rw [back_d, takeSet]
/-! ### truth -/
theorem tru_int {i : Int} {Q : Bool → Sto → Prop} : Wp (truM (.d (.int i))) st Q = Q (i != 0) st := rfl
theorem tru_none {Q : Bool → Sto → Prop} : Wp (truM (.d .none)) st Q = Q false st := rfl
theorem tru_list {xs : List PyData} {Q : Bool → Sto → Prop} : Wp (truM (.d (.list xs))) st Q = Q (!xs.isEmpty) st := rfl
theorem tru_tuple {xs : List PyData} {Q : Bool → Sto → Prop} : Wp (truM (.d (.tuple xs))) st Q = Q (!xs.isEmpty) st := rfl
/-! ### frozen -/
theorem frzs_nil {Q : List PyData → Sto → Prop} : Wp (frzsM []) st Q = Q [] st := rfl
theorem frzs_cons {x : PyData} {as : List Vl} {Q : List PyData → Sto → Prop} : Wp (frzsM (.d x :: as)) st Q = Wp (frzsM as) st fun xs s => Q (x :: xs) s := by
  unfold Wp frzsM
  simp only [frzs, frz1, Option.bind_some]
  cases frzs st as <;> rfl
theorem wp_retL' {xs : List PyData} {Q : Vl → Sto → Prop} : Wp (if xs.length ≤ sizeLine then ret (.d (.list xs)) else nope) st Q = (xs.length ≤ sizeLine ∧ Q (.d (.list xs)) st) := by
  by_cases h : xs.length ≤ sizeLine
  · rw [if_pos h]; simp [h, wp_ret]
  · rw [if_neg h]; simp [h, wp_nope]
theorem wp_retT' {xs : List PyData} {Q : Vl → Sto → Prop} : Wp (if xs.length ≤ sizeLine then ret (.d (.tuple xs)) else nope) st Q = (xs.length ≤ sizeLine ∧ Q (.d (.tuple xs)) st) := by
  by_cases h : xs.length ≤ sizeLine
  · rw [if_pos h]; simp [h, wp_ret]
  · rw [if_neg h]; simp [h, wp_nope]
theorem wp_newC' {xs : List PyData} {Q : Vl → Sto → Prop} : Wp (if xs.length ≤ sizeLine then newC xs else nope) st Q = (xs.length ≤ sizeLine ∧ Q (.ref st.length) (st ++ [.lst xs])) := by
  by_cases h : xs.length ≤ sizeLine
  · rw [if_pos h]; simp only [h, true_and]; rfl
  · rw [if_neg h]; simp [h, wp_nope]
theorem le_sizeLine {n : Nat} (h : n ≤ 16777216) : n ≤ sizeLine := h
/-- of an option -/
def ON {α : Type} (o : Option α) (K : α → Prop) : Prop := match o with
  | some a => K a
  | none => False
theorem on_some {α : Type} {a : α} {K : α → Prop} : ON (some a) K = K a := rfl
theorem on_none {α : Type} {K : α → Prop} : ON none K = False := rfl
theorem on_map {α β : Type} {o : Option α} {f : α → β} {K : β → Prop} : ON (o.map f) K = ON o fun a => K (f a) := by cases o <;> rfl
theorem on_of {α : Type} {o : Option α} {a : α} {K : α → Prop} (h : o = some a) (k : K a) : ON o K := by rw [h]; exact k
/-! ### items -/
theorem ix_tup {xs : List PyData} {k : Int} {Q : Vl → Sto → Prop} : OptQ (pIxA2 (.d (.tuple xs)) (.d (.int k)) st) Q = ON (L2.atI xs k) fun d => Q (.d d) st := by
  unfold pIxA2
  simp only [asK, pIx2, asQ, asT, Option.some_or, Option.bind_some]
  cases L2.atI xs k <;> rfl
theorem ix_lst {xs : List PyData} {k : Int} {Q : Vl → Sto → Prop} : OptQ (pIxA2 (.d (.list xs)) (.d (.int k)) st) Q = ON (L2.atI xs k) fun d => Q (.d d) st := by
  unfold pIxA2
  simp only [asK, pIx2, asQ, asT, asL, Option.none_or, Option.bind_some]
  cases L2.atI xs k <;> rfl
theorem at_0 {xs : List PyData} {d : PyData} : L2.atI (d :: xs) 0 = some d := atS
theorem at_1 {xs : List PyData} {d e : PyData} : L2.atI (d :: e :: xs) 1 = some e := at1S
theorem at_nat {xs : List PyData} {n : Nat} : L2.atI xs (n : Int) = xs[n]? := by
  unfold L2.atI L2.ixN
  rw [if_pos (by omega)]
  by_cases h : (n : Int) < xs.length
  · rw [if_pos h]
    simp
  · rw [if_neg h]
    simp only [Option.bind_none]
    symm
    exact List.getElem?_eq_none (by omega)
theorem at_m1 {xs : List PyData} {d : PyData} : L2.atI (xs ++ [d]) (-1) = some d := by
  unfold L2.atI L2.ixN
  rw [if_neg (by omega), if_pos (by simp only [List.length_append, List.length_singleton]; omega)]
  have : ((xs ++ [d]).length - (-1 : Int).natAbs) = xs.length := by simp
  have e2 : ((-1 : Int) + (((xs ++ [d]).length : Nat) : Int)).toNat = xs.length := by simp only [List.length_append, List.length_singleton]; omega
  rw [Option.bind_some, e2]
  simp
/-! ### numbers -/
theorem oq_neg {i : Int} {Q : Vl → Sto → Prop} : OptQ (pNeg1 (.d (.int i)) st) Q = Q (.d (.int (-i))) st := rfl
theorem oq_max {i j : Int} {Q : Vl → Sto → Prop} : OptQ (pMax [.d (.int i), .d (.int j)] st) Q = Q (.d (.int (max i j))) st := by
  first | rfl | (show Q (.d (.int (if j > i then j else i))) st = _; congr 3; omega)
theorem oq_min {i j : Int} {Q : Vl → Sto → Prop} : OptQ (pMin [.d (.int i), .d (.int j)] st) Q = Q (.d (.int (min i j))) st := by
  first | rfl | (show Q (.d (.int (if j < i then j else i))) st = _; congr 3; omega)
/-! ### equality -/
theorem oq_eq' {x y : PyData} {Q : Vl → Sto → Prop} : OptQ (cmpP .Eq (.d x) (.d y) st) Q = (eqOk x y = true ∧ Q (.d (.bool (PyData.eqv x y))) st) := by
  by_cases h : eqOk x y = true
  · rw [oq_eqD h]; simp [h]
  · show OptQ ((asD st (.d x)).bind fun x => (asD st (.d y)).bind fun y => if eqOk x y = true then some (.d (.bool (PyData.eqv x y)), st) else none) Q = _
    simp only [asD, Option.bind_some, if_neg h]
    simp [h, oq_none]
theorem oq_ne' {x y : PyData} {Q : Vl → Sto → Prop} : OptQ (cmpP .NotEq (.d x) (.d y) st) Q = (eqOk x y = true ∧ Q (.d (.bool (!PyData.eqv x y))) st) := by
  by_cases h : eqOk x y = true
  · rw [oq_neD h]; simp [h]
  · show OptQ ((asD st (.d x)).bind fun x => (asD st (.d y)).bind fun y => if eqOk x y = true then some (.d (.bool (!PyData.eqv x y)), st) else none) Q = _
    simp only [asD, Option.bind_some, if_neg h]
    simp [h, oq_none]
theorem oq_eqS' {i j : String} {Q : Vl → Sto → Prop} : OptQ (cmpP .Eq (.d (.str (Str.ofString i))) (.d (.str (Str.ofString j))) st) Q = Q (.d (.bool (decide (i = j)))) st := by
  rw [oq_eqS (strOk_ofS _) (strOk_ofS _)]
  simp only [ofS_inj]
end
/-! ### walks over typed things -/
section
variable {st : Sto} {ρ : Env} {N : Env → Sto → Prop} {R : Vl → Sto → Prop} {τ : Type}
theorem wp_lcT {fin : List PyData → M Vl} {own : List Nat} {it : Env → M Wk} {enc : τ → PyData} {l : List τ} {asg : Asg} {tt : Env → M Bool} {te : Env → M Vl} {Q : Vl → Sto → Prop} (p : τ → Bool) (g : τ → PyData)
    (hit : Wp (it ρ) st fun w st' => Walks w (l.map enc) ∧ st' = st) (hz : l.length ≤ 100000)
    (step : ∀ t ∈ l, ∃ ρ2, asg (enc t) (wipeE ρ own) = some ρ2 ∧ Wp (tt ρ2) st fun b s1 => s1 = st ∧ b = p t ∧ (p t = true → Wp (te ρ2) st fun v s2 => s2 = st ∧ v = .d (g t)))
    (done : Wp (fin ((l.filter p).map g)) st Q) : Wp (lcG fin own it asg tt te ρ) st Q := by
  refine wp_lc hit (fun i acc st' => st' = st ∧ acc = ((l.take i).filter p).map g) ⟨rfl, by simp⟩ (fun i d e acc st' h => ?_) fun acc st' h => ?_
  · obtain ⟨rfl, rfl⟩ := h
    rw [List.getElem?_map] at e
    obtain ⟨t, e1, rfl⟩ := Option.map_eq_some_iff.mp e
    have hlt := (List.getElem?_eq_some_iff.mp e1).1
    obtain ⟨ρ2, e2, b⟩ := step t (List.mem_of_getElem? e1)
    refine ⟨ρ2, e2, b.mono fun k s1 ⟨h1, h2, h3⟩ => ?_⟩
    subst h1 h2
    have tk : l.take (i + 1) = l.take i ++ [t] := by rw [List.take_add_one, e1]; rfl
    by_cases hp : p t = true
    · rw [if_pos hp]
      refine (h3 hp).mono fun v s2 ⟨h4, h5⟩ => ?_
      subst h4 h5
      rw [wp_frzD]
      refine ⟨?_, rfl, ?_⟩
      · rw [List.length_map]
        refine Nat.lt_of_le_of_lt (List.length_filter_le _ _) ?_
        rw [List.length_take, sizeLine_eq]
        omega
      · rw [tk, List.filter_append, List.map_append]
        simp [hp]
    · rw [if_neg hp]
      refine ⟨rfl, ?_⟩
      rw [tk, List.filter_append, List.map_append]
      simp [hp]
  · obtain ⟨rfl, rfl⟩ := h
    rw [List.length_map, List.take_length]
    exact done
/-- without a test -/
theorem wp_lcY {fin : List PyData → M Vl} {own : List Nat} {it : Env → M Wk} {enc : τ → PyData} {l : List τ} {asg : Asg} {te : Env → M Vl} {Q : Vl → Sto → Prop} (g : τ → PyData)
    (hit : Wp (it ρ) st fun w st' => Walks w (l.map enc) ∧ st' = st) (hz : l.length ≤ 100000)
    (step : ∀ t ∈ l, ∃ ρ2, asg (enc t) (wipeE ρ own) = some ρ2 ∧ Wp (te ρ2) st fun v s2 => s2 = st ∧ v = .d (g t))
    (done : Wp (fin (l.map g)) st Q) : Wp (lcG fin own it asg yesM te ρ) st Q := by
  refine wp_lcT (fun _ => true) g hit hz (fun t ht => ?_) ?_
  · obtain ⟨ρ2, h1, h2⟩ := step t ht
    exact ⟨ρ2, h1, rfl, rfl, fun _ => h2⟩
  · rw [List.filter_eq_self.mpr (fun _ _ => rfl)]
    exact done
theorem sw_forT {it : Env → M Wk} {enc : τ → PyData} {l : List τ} {asg : Asg} {body : S} (hit : Wp (it ρ) st fun w st' => Walks w (l.map enc) ∧ st' = st) (I : List τ → Env → Sto → Prop) (h0 : I [] ρ st)
    (step : ∀ pre t post, l = pre ++ t :: post → ∀ ρ' st', I pre ρ' st' → ∃ ρ2, asg (enc t) ρ' = some ρ2 ∧ SWp body ρ2 st' (I (pre ++ [t])) R)
    (done : ∀ ρ' st', I l ρ' st' → N ρ' st') : SWp (forS it asg body) ρ st N R := by
  refine sw_for hit (fun i ρ' st' => I (l.take i) ρ' st') (by simpa using h0) (fun i d e ρ' st' h => ?_) fun ρ' st' h => ?_
  · rw [List.getElem?_map] at e
    obtain ⟨t, e1, rfl⟩ := Option.map_eq_some_iff.mp e
    have hlt := (List.getElem?_eq_some_iff.mp e1).1
    have e3 : l[i] = t := (List.getElem?_eq_some_iff.mp e1).2
    have tk : l.take (i + 1) = l.take i ++ [t] := by rw [List.take_add_one, e1]; rfl
    have sp : l = l.take i ++ t :: l.drop (i + 1) := by
      conv => lhs; rw [← List.take_append_drop i l, List.drop_eq_getElem_cons hlt, e3]
    rw [tk]
    exact step _ t _ sp ρ' st' h
  · rw [List.length_map, List.take_length] at h
    exact done ρ' st' h
theorem Walks.cast {w : Wk} {xs ys : List PyData} (h : Walks w xs) (e : xs = ys) : Walks w ys := e ▸ h
theorem enD_map {enc : τ → PyData} {l : List τ} : enD (l.map enc) = l.zipIdx.map fun q => .tuple [.int (q.2 : Nat), enc q.1] := by
  unfold enD
  rw [List.zipIdx_map, List.map_map]
  rfl
theorem zpD_map {σ : Type} {enc : τ → PyData} {l : List τ} {enc' : σ → PyData} {l' : List σ} : zpD (l.map enc) (l'.map enc') = (l.zip l').map fun q => .tuple [enc q.1, enc' q.2] := by
  unfold zpD
  rw [List.zip_map, List.map_map]
  rfl
/-- it is a list of typed things -/
theorem itL {f : Env → M Vl} {enc : τ → PyData} {l : List τ} (h : Wp (f ρ) st fun v st' => v = .d (.list (l.map enc)) ∧ st' = st) : Wp (itV f ρ) st fun w st' => Walks w (l.map enc) ∧ st' = st := it_list h
theorem itT {f : Env → M Vl} {enc : τ → PyData} {l : List τ} (h : Wp (f ρ) st fun v st' => v = .d (.tuple (l.map enc)) ∧ st' = st) : Wp (itV f ρ) st fun w st' => Walks w (l.map enc) ∧ st' = st := it_tuple h
theorem itC {f : Env → M Vl} {enc : τ → PyData} {l : List τ} {r : Nat} (h : Wp (f ρ) st fun v st' => v = .ref r ∧ st' = st) (hr : st[r]? = some (.lst (l.map enc))) : Wp (itV f ρ) st fun w st' => True := by
  unfold itV
  rw [wp_bind]
  refine h.mono fun v st' ⟨e1, e2⟩ => ?_
  subst e1 e2
  unfold Wp itM
  simp [itOf, asQ, asT, asL, hr]
theorem itE {f : Env → M (List Vl)} {a : Vl} {enc : τ → PyData} {l : List τ} (h : Wp (f ρ) st fun v st' => v = [a] ∧ st' = st) (ha : ∀ st, asQ st a = some (l.map enc)) : Wp (M.bind (f ρ) enM) st fun w st' => Walks w (l.zipIdx.map fun q => .tuple [.int (q.2 : Nat), enc q.1]) ∧ st' = st := by
  rw [← enD_map]; exact it_en h ha
theorem itZ {σ : Type} {f : Env → M (List Vl)} {a c : Vl} {enc : τ → PyData} {l : List τ} {enc' : σ → PyData} {l' : List σ} (h : Wp (f ρ) st fun v st' => v = [a, c] ∧ st' = st) (ha : ∀ st, asQ st a = some (l.map enc)) (hc : ∀ st, asQ st c = some (l'.map enc')) :
    Wp (M.bind (f ρ) zpM) st fun w st' => Walks w ((l.zip l').map fun q => .tuple [enc q.1, enc' q.2]) ∧ st' = st := by
  rw [← zpD_map]; exact it_zp h ha hc
theorem it1 {f : Env → M Vl} {n : Nat} (h : Wp (f ρ) st fun v st' => v = .d (.int (n : Nat)) ∧ st' = st) (hn : n ≤ 100000) : Wp (itR1 f ρ) st fun w st' => Walks w ((List.range n).map fun i => .int (i : Nat)) ∧ st' = st := by
  have := it_rng1 h (by omega) (by omega)
  refine this.mono fun w s ⟨h1, h2⟩ => ⟨h1.cast ?_, h2⟩
  unfold rngD
  rw [Int.toNat_natCast]
  refine List.map_congr_left fun i _ => ?_
  rw [Int.zero_add]
theorem it2 {f g : Env → M Vl} {a b : Nat} (h : Wp (f ρ) st fun v st' => v = .d (.int (a : Nat)) ∧ st' = st) (h' : Wp (g ρ) st fun v st' => v = .d (.int (b : Nat)) ∧ st' = st) (ha : a ≤ 100000) (hb : b ≤ 100000) :
    Wp (itR2 f g ρ) st fun w st' => Walks w ((List.range (b - a)).map fun i => .int ((a + i : Nat))) ∧ st' = st := by
  have := it_rng2 h h' (by omega)
  refine this.mono fun w s ⟨h1, h2⟩ => ⟨h1.cast ?_, h2⟩
  unfold rngD
  have e : (((b : Nat) : Int) - ((a : Nat) : Int)).toNat = b - a := by omega
  rw [e]
  refine List.map_congr_left fun i _ => ?_
  congr 1
end
end Iv
set_option Elab.async false
set_option linter.all false
set_option maxRecDepth 100000
set_option maxHeartbeats 4000000
/-! Wa2: rows' items; is_apart and the loops, anew. -/
namespace Iv
open PySem
section
variable {st : Sto} {ρ : Env} {N : Env → Sto → Prop} {R : Vl → Sto → Prop}
theorem asgQ_some {m : Asg} {d : PyData} {Q : Env → Prop} : AsgQ m (.d d) ρ Q = ON (m d ρ) Q := by
  cases h : m d ρ with
  | none => simp [AsgQ, ON, h]
  | some a => simp [AsgQ, ON, h]
theorem asgQ_none {m : Asg} {r : Nat} {Q : Env → Prop} : AsgQ m (.ref r) ρ Q = False := rfl
theorem aTup_tup {n : Nat} {ms : List PyData → Env → Option Env} {ds : List PyData} : aTup n ms (.tuple ds) ρ = if ds.length = n then ms ds ρ else none := rfl
theorem aTup_lst {n : Nat} {ms : List PyData → Env → Option Env} {ds : List PyData} : aTup n ms (.list ds) ρ = if ds.length = n then ms ds ρ else none := rfl
theorem aCons_cons {m : Asg} {ms : List PyData → Env → Option Env} {d : PyData} {ds : List PyData} : aCons m ms (d :: ds) ρ = (m d ρ).bind (ms ds) := rfl
theorem sw_bad {N : Env → Sto → Prop} {R : Vl → Sto → Prop} : SWp (fun _ _ => .bad) ρ st N R = False := rfl
theorem oq_tuple0 {xs : List PyData} {Q : Vl → Sto → Prop} : OptQ (pTuple [.d (.list xs)] st) Q = Q (.d (.tuple xs)) st := rfl
theorem wipe_nil : wipeE ρ [] = ρ := rfl
theorem wipe_cons {v : Nat} {vs : List Nat} : wipeE ρ (v :: vs) = (wipeE ρ vs).set v none := rfl
theorem aNil_nil : aNil [] ρ = some ρ := rfl
theorem ix_row0 {r : Row} {Q : Vl → Sto → Prop} : OptQ (pIxA2 (.d (rowD r)) (.d (.int 0)) st) Q = Q (.d (.str r.1)) st := by
  unfold rowD
  rw [ix_tup, at_0, on_some]
theorem ix_row1 {r : Row} {Q : Vl → Sto → Prop} : OptQ (pIxA2 (.d (rowD r)) (.d (.int 1)) st) Q = ON r.2[0]? fun i => Q (.d (.int i)) st := by
  obtain ⟨w, ps⟩ := r
  unfold rowD
  rw [ix_tup, show (1 : Int) = ((1 : Nat) : Int) from rfl, at_nat]
  cases ps <;> rfl
theorem ix_rowm1 {r : Row} {t : Int} (h : r.2.getLast? = some t) {Q : Vl → Sto → Prop} : OptQ (pIxA2 (.d (rowD r)) (.d (.int (-1))) st) Q = Q (.d (.int t)) st := by
  obtain ⟨w, ps⟩ := r
  unfold rowD
  obtain ⟨qs, rfl⟩ : ∃ qs, ps = qs ++ [t] := by
    have := List.getLast?_eq_some_iff.mp h
    exact this
  rw [ix_tup, show (PyData.str w :: List.map PyData.int (qs ++ [t])) = (PyData.str w :: List.map PyData.int qs) ++ [.int t] by simp, at_m1, on_some]
theorem oq_eqW {w : Str} (h : PyData.strOk w = true) {s : String} {Q : Vl → Sto → Prop} : OptQ (cmpP .Eq (.d (.str w)) (.d (.str (Str.ofString s))) st) Q = Q (.d (.bool (decide (w = Str.ofString s)))) st := oq_eqS h (strOk_ofS _)
theorem wp_slM {f : Env → M Vl} {l u : Env → M (Option Int)} {Q : Vl → Sto → Prop} : Wp (slM f l u ρ) st Q = Wp (f ρ) st fun a s1 => Wp (l ρ) s1 fun lo s2 => Wp (u ρ) s2 fun hi s3 => OptQ (pSl lo hi a s3) Q := by
  unfold slM
  simp only [wp_bind, wp_l1]
theorem wp_noO {Q : Option Int → Sto → Prop} : Wp (noO ρ) st Q = Q none st := rfl
theorem wp_someO {f : Env → M Vl} {Q : Option Int → Sto → Prop} : Wp (someO f ρ) st Q = Wp (f ρ) st fun a s => Wp (asI a) s Q := by
  unfold someO
  rw [wp_bind]
theorem wp_asI {i : Int} {Q : Option Int → Sto → Prop} : Wp (asI (.d (.int i))) st Q = Q (some i) st := rfl
theorem sl_list {xs : List PyData} {lo hi : Option Int} {Q : Vl → Sto → Prop} : OptQ (pSl lo hi (.d (.list xs)) st) Q = Q (.d (.list (cutD xs lo hi))) st := rfl
theorem sl_tuple {xs : List PyData} {lo hi : Option Int} {Q : Vl → Sto → Prop} : OptQ (pSl lo hi (.d (.tuple xs)) st) Q = Q (.d (.tuple (cutD xs lo hi))) st := rfl
theorem cut_from {xs : List PyData} {k : Nat} : cutD xs (some ((k : Nat) : Int)) none = xs.drop k := by
  unfold cutD
  rw [HT.sIx_nat, HT.sIx_none]
  by_cases hk : k ≤ xs.length
  · rw [Nat.min_eq_left hk, List.take_of_length_le (by simp)]
  · rw [Nat.min_eq_right (by omega), List.drop_of_length_le (Nat.le_refl _), List.drop_of_length_le (by omega)]
    simp
theorem cut_from1 {xs : List PyData} {k : Nat} : cutD xs (some (((k : Nat) : Int) + 1)) none = xs.drop (k + 1) := by
  rw [show (((k : Nat) : Int) + 1) = ((k + 1 : Nat) : Int) by omega, cut_from]
theorem cut_to {xs : List PyData} {k : Nat} : cutD xs none (some ((k : Nat) : Int)) = xs.take k := by
  unfold cutD
  rw [HT.sIx_nat, HT.sIx_none, List.drop_zero, Nat.sub_zero]
  by_cases hk : k ≤ xs.length
  · rw [Nat.min_eq_left hk]
  · rw [Nat.min_eq_right (by omega), List.take_of_length_le (Nat.le_refl _), List.take_of_length_le (by omega)]
theorem pl_list {xs : List PyData} {Q : Vl → Sto → Prop} : OptQ (pLenA1 (.d (.list xs)) st) Q = Q (.d (.int xs.length)) st := rfl
theorem pl_tuple {xs : List PyData} {Q : Vl → Sto → Prop} : OptQ (pLenA1 (.d (.tuple xs)) st) Q = Q (.d (.int xs.length)) st := rfl
theorem ty_int {i : Int} : tyD (.int i) = .int := rfl
theorem ty_bool {i : Bool} : tyD (.bool i) = .bl := rfl
theorem ty_str {i : Str} : tyD (.str i) = .str := rfl
theorem ty_list {i : List PyData} : tyD (.list i) = .lst := rfl
theorem ty_tuple {i : List PyData} : tyD (.tuple i) = .tup := rfl
theorem isi_self {t : Ty} : isi t t = true := by cases t <;> rfl
theorem isi_ib : isi .int .bl = false := rfl
/-- a list's cell -/
def LS (st : Sto) (n : Nat) (K : List PyData → Prop) : Prop := match st[n]? with
  | some (.lst xs) => K xs
  | _ => False
theorem ls_of {n : Nat} {xs : List PyData} {K : List PyData → Prop} (h : st[n]? = some (.lst xs)) : LS st n K = K xs := by
  unfold LS
  rw [h]
theorem wp_meth1 {p : P1} {f : Env → M Vl} {Q : Vl → Sto → Prop} : Wp (meth1 p f ρ) st Q = Wp (f ρ) st fun a s1 => Wp (isL a) s1 fun _ s2 => OptQ (p a s2) Q := by
  unfold meth1
  simp only [wp_bind, wp_l1]
theorem wp_meth2 {p : P2} {f g : Env → M Vl} {Q : Vl → Sto → Prop} : Wp (meth2 p f g ρ) st Q = Wp (f ρ) st fun a s1 => Wp (isL a) s1 fun _ s2 => Wp (g ρ) s2 fun b s3 => OptQ (p a b s3) Q := by
  unfold meth2
  simp only [wp_bind, wp_l2]
theorem wp_isL {n : Nat} {Q : Unit → Sto → Prop} : Wp (isL (.ref n)) st Q = LS st n fun _ => Q () st := by
  cases h : st[n]? with
  | none => simp [Wp, isL, LS, asL, h]
  | some c => cases c <;> simp [Wp, isL, LS, asL, h]
theorem oq_append {n : Nat} {x : PyData} {Q : Vl → Sto → Prop} : OptQ (pAppend2 (.ref n) (.d x) st) Q = LS st n fun xs => xs.length < sizeLine ∧ Q (.d .none) (st.set n (.lst (xs ++ [x]))) := by
  unfold pAppend2 LS
  simp only [frz1, Option.bind_some]
  cases h : st[n]? with
  | none => rfl
  | some c => cases c with
    | lst xs => dsimp only; exact oq_ite
    | dct _ => rfl
    | set _ _ => rfl
    | dtk _ => rfl
    | dead => rfl
theorem oq_pop {n : Nat} {Q : Vl → Sto → Prop} : OptQ (pPop1 (.ref n) st) Q = LS st n fun xs => ON (xs[xs.length - 1]?) fun x => Q (.d x) (st.set n (.lst xs.dropLast)) := by
  cases h : st[n]? with
  | none => simp [OptQ, pPop1, LS, h]
  | some c => cases c with
    | lst xs => cases h2 : xs[xs.length - 1]? <;> simp [OptQ, pPop1, LS, h, h2, ON]
    | dct _ => simp [OptQ, pPop1, LS, h]
    | set _ _ => simp [OptQ, pPop1, LS, h]
    | dtk _ => simp [OptQ, pPop1, LS, h]
    | dead => simp [OptQ, pPop1, LS, h]
theorem frzs_ref {n : Nat} {as : List Vl} {Q : List PyData → Sto → Prop} (hr : ∃ xs, st[n]? = some (.lst xs)) : Wp (frzsM (.ref n :: as)) st Q = LS st n fun ys => Wp (frzsM as) (st.set n .dead) fun xs s => Q (.list ys :: xs) s := by
  obtain ⟨xs, h⟩ := hr
  rw [ls_of h]
  cases h2 : frzs (st.set n .dead) as <;> simp [Wp, frzsM, frzs, frz1, h, h2]
theorem pl_ref {n : Nat} {Q : Vl → Sto → Prop} (hr : ∃ xs, st[n]? = some (.lst xs)) : OptQ (pLenA1 (.ref n) st) Q = LS st n fun xs => Q (.d (.int xs.length)) st := by
  obtain ⟨xs, h⟩ := hr
  rw [ls_of h]
  simp [pLenA1, asK, h, pLen1, asQ, asT, asL, oq_some]
theorem ix_ref' {n : Nat} {k : Int} {Q : Vl → Sto → Prop} (hr : ∃ xs, st[n]? = some (.lst xs)) : OptQ (pIxA2 (.ref n) (.d (.int k)) st) Q = LS st n fun xs => ON (L2.atI xs k) fun d => Q (.d d) st := by
  obtain ⟨xs, h⟩ := hr
  rw [ls_of h]
  simp only [pIxA2, asK, h, pIx2, asQ, asT, asL, Option.none_or, Option.bind_some]
  cases L2.atI xs k <;> rfl
theorem sw_par {is : List Nat} {f : Env → M (List Vl)} {N : Env → Sto → Prop} {R : Vl → Sto → Prop} : SWp (parS is f) ρ st N R = Wp (f ρ) st fun vs s => vs.length = is.length ∧ N ((is.zip vs).foldl (fun ρ p => ρ.set p.1 (some p.2)) ρ) s := by
  unfold parS
  rw [sw_bind]
  congr 1
  funext vs s
  unfold SWp
  by_cases h : vs.length = is.length
  · simp [h]
  · simp [h]
end
/-! ### the store behind a def that draws: the pot's cell, the def's own cells behind -/
def Stw (st : Sto) (r : Nat) (p : List PyData) (cs : List Cell) : Sto := st.set r (.lst p) ++ cs
section
variable {st : Sto} {r : Nat} {p p' : List PyData} {cs : List Cell}
theorem stw_of (h : st[r]? = some (.lst p)) : st = Stw st r p [] := by
  unfold Stw
  rw [List.append_nil]
  refine (List.ext_getElem? fun i => ?_)
  rw [List.getElem?_set]
  by_cases e : r = i
  · subst e
    have := (List.getElem?_eq_some_iff.mp h).1
    rw [if_pos rfl, if_pos this, h]
  · rw [if_neg e]
theorem stw_r (h : r < st.length) : (Stw st r p cs)[r]? = some (.lst p) := by
  unfold Stw
  rw [List.getElem?_append_left (by simpa using h), List.getElem?_set_self h]
theorem stw_k {k : Nat} : (Stw st r p cs)[st.length + k]? = cs[k]? := by
  unfold Stw
  rw [List.getElem?_append_right (by simp)]
  simp
theorem stw_k0 : (Stw st r p cs)[st.length]? = cs[0]? := stw_k (k := 0)
theorem stw_set (h : r < st.length) : (Stw st r p cs).set r (.lst p') = Stw st r p' cs := by
  unfold Stw
  rw [List.set_append_left _ _ (by simpa using h), List.set_set]
theorem stw_setk {k : Nat} {c : Cell} : (Stw st r p cs).set (st.length + k) c = Stw st r p (cs.set k c) := by
  unfold Stw
  rw [List.set_append_right _ _ (by simp)]
  simp
theorem stw_setk0 {c : Cell} : (Stw st r p cs).set st.length c = Stw st r p (cs.set 0 c) := stw_setk (k := 0)
theorem stw_app {ds : List Cell} : Stw st r p cs ++ ds = Stw st r p (cs ++ ds) := by
  unfold Stw
  rw [List.append_assoc]
theorem stw_len : (Stw st r p cs).length = st.length + cs.length := by
  unfold Stw
  simp
theorem stw_back {x : PyData} {Q : Vl → Sto → Prop} : Back st.length (.d x) (Stw st r p cs) Q = Q (.d x) (Stw st r p []) := by
  rw [back_d]
  congr 1
  unfold Stw
  rw [List.take_append_of_le_length (by simp), List.take_of_length_le (by simp), List.append_nil]
theorem ex_lst {xs : List PyData} : (∃ ys, some (Cell.lst xs) = some (Cell.lst ys)) = True := eq_true ⟨xs, rfl⟩
theorem ls_r {K : List PyData → Prop} (h : r < st.length) : LS (Stw st r p cs) r K = K p := ls_of (stw_r h)
theorem ls_0 {K : List PyData → Prop} {xs : List PyData} : LS (Stw st r p (.lst xs :: cs)) st.length K = K xs := ls_of (by rw [stw_k0]; rfl)
theorem ls_1 {K : List PyData → Prop} {xs : List PyData} {c : Cell} : LS (Stw st r p (c :: .lst xs :: cs)) (st.length + 1) K = K xs := ls_of (by rw [stw_k]; rfl)
theorem ls_2 {K : List PyData → Prop} {xs : List PyData} {c c' : Cell} : LS (Stw st r p (c :: c' :: .lst xs :: cs)) (st.length + 2) K = K xs := ls_of (by rw [stw_k]; rfl)
/-- a new list goes along -/
theorem stw_new {xs : List PyData} {Q : Vl → Sto → Prop} : Back st.length (.ref st.length) (Stw st r p (.lst xs :: cs)) Q = Q (.ref st.length) (Stw st r p [.lst xs]) := by
  have e : (Stw st r p (.lst xs :: cs))[st.length]? = some (.lst xs) := by rw [stw_k0]; rfl
  have : List.take st.length (Stw st r p (.lst xs :: cs)) ++ [.lst xs] = Stw st r p [.lst xs] := by
    unfold Stw
    rw [List.take_append_of_le_length (by simp), List.take_of_length_le (by simp)]
  simp [Back, Wp, backM, e, this]
theorem stw_nil (h : r < st.length) {p0 : List PyData} : Stw (Stw st r p0 cs) r p [] = Stw st r p cs := by
  unfold Stw
  rw [List.set_append_left _ _ (by simpa using h), List.set_set, List.append_nil]
end
end Iv
set_option Elab.async false
set_option linter.all false
set_option maxRecDepth 100000
set_option maxHeartbeats 4000000
/-! Wb1: typed things as data: equality, in. -/
namespace Iv
open PySem
structure EncOk {τ : Type} [DecidableEq τ] (D : τ → Prop) (enc : τ → PyData) (k : Nat) : Prop where
  eq : ∀ a b, D a → D b → PyData.eqv (enc a) (enc b) = decide (a = b)
  lay : ∀ a, D a → (enc a).canLay0 = true
  dep : ∀ a, D a → (enc a).depth ≤ k

section
variable {τ σ : Type} [DecidableEq τ] [DecidableEq σ] {D : τ → Prop} {D' : σ → Prop} {enc : τ → PyData} {enc' : σ → PyData} {k k' : Nat}
theorem EncOk.int : EncOk (τ := Int) (fun _ => True) .int 0 := ⟨fun a b _ _ => eqv_int, fun _ _ => by simp [PyData.canLay0], fun _ _ => by simp [PyData.depth]⟩
theorem EncOk.nat : EncOk (τ := Nat) (fun _ => True) (fun n => .int (n : Int)) 0 := ⟨fun a b _ _ => by rw [eqv_int]; exact decide_eq_decide.mpr (by omega), fun _ _ => by simp [PyData.canLay0], fun _ _ => by simp [PyData.depth]⟩
theorem EncOk.bool : EncOk (τ := Bool) (fun _ => True) .bool 0 := ⟨fun a b _ _ => by cases a <;> cases b <;> rfl, fun _ _ => by simp [PyData.canLay0], fun _ _ => by simp [PyData.depth]⟩
theorem EncOk.str : EncOk (τ := Str) (fun x => PyData.strOk x = true) .str 0 := ⟨fun a b _ _ => eqv_str, fun _ h => by simp [PyData.canLay0, h], fun _ _ => by simp [PyData.depth]⟩
theorem eqvAll_map (h : EncOk D enc k) : ∀ {l l' : List τ}, (∀ a ∈ l, D a) → (∀ a ∈ l', D a) → PyData.eqvAll (l.map enc) (l'.map enc) = decide (l = l')
  | [], [], _, _ => by simp [PyData.eqvAll]
  | [], _ :: _, _, _ => by simp [PyData.eqvAll]
  | _ :: _, [], _, _ => by simp [PyData.eqvAll]
  | x :: xs, y :: ys, h1, h2 => by
    rw [List.map_cons, List.map_cons, PyData.eqvAll, h.eq x y (h1 x (by simp)) (h2 y (by simp)), eqvAll_map h (fun a ha => h1 a (by simp [ha])) fun a ha => h2 a (by simp [ha])]
    by_cases q : x = y
    · by_cases q2 : xs = ys <;> simp [q, q2]
    · simp [q]
theorem layAll_map (h : EncOk D enc k) : ∀ {l : List τ}, (∀ a ∈ l, D a) → PyData.canLayAll0 (l.map enc) = true
  | [], _ => by simp [PyData.canLayAll0]
  | x :: xs, h1 => by rw [List.map_cons, PyData.canLayAll0, h.lay x (h1 x (by simp)), layAll_map h fun a ha => h1 a (by simp [ha])]; rfl
theorem depAll_map (h : EncOk D enc k) : ∀ {l : List τ}, (∀ a ∈ l, D a) → PyData.depthAll (l.map enc) ≤ k
  | [], _ => by simp [PyData.depthAll]
  | x :: xs, h1 => by
    have := h.dep x (h1 x (by simp))
    have := depAll_map h (l := xs) fun a ha => h1 a (by simp [ha])
    rw [List.map_cons, PyData.depthAll]
    omega
theorem EncOk.list (h : EncOk D enc k) : EncOk (τ := List τ) (fun l => ∀ a ∈ l, D a) (fun l => .list (l.map enc)) (k + 1) :=
  ⟨fun a b ha hb => by rw [PyData.eqv, eqvAll_map h ha hb], fun a ha => by rw [PyData.canLay0]; exact layAll_map h ha, fun a ha => by have := depAll_map h ha; rw [PyData.depth]; omega⟩
theorem EncOk.tuple (h : EncOk D enc k) : EncOk (τ := List τ) (fun l => ∀ a ∈ l, D a) (fun l => .tuple (l.map enc)) (k + 1) :=
  ⟨fun a b ha hb => by rw [PyData.eqv, eqvAll_map h ha hb], fun a ha => by rw [PyData.canLay0]; exact layAll_map h ha, fun a ha => by have := depAll_map h ha; rw [PyData.depth]; omega⟩
theorem EncOk.pair (h : EncOk D enc k) (h' : EncOk D' enc' k') : EncOk (τ := τ × σ) (fun p => D p.1 ∧ D' p.2) (fun p => .tuple [enc p.1, enc' p.2]) (max k k' + 1) :=
  ⟨fun a b ha hb => by
    rw [PyData.eqv, PyData.eqvAll, PyData.eqvAll, PyData.eqvAll, h.eq _ _ ha.1 hb.1, h'.eq _ _ ha.2 hb.2]
    obtain ⟨a1, a2⟩ := a
    obtain ⟨b1, b2⟩ := b
    simp, fun a ha => by simp [PyData.canLay0, PyData.canLayAll0, h.lay _ ha.1, h'.lay _ ha.2], fun a ha => by
      have := h.dep _ ha.1
      have := h'.dep _ ha.2
      simp only [PyData.depth, PyData.depthAll]
      omega⟩
/-- a word, then things of one kind -/
theorem EncOk.word (h' : EncOk D' enc' k') : EncOk (τ := Str × List σ) (fun p => PyData.strOk p.1 = true ∧ ∀ a ∈ p.2, D' a) (fun p => .tuple (.str p.1 :: p.2.map enc')) (k' + 1) :=
  ⟨fun a b ha hb => by
    rw [PyData.eqv, PyData.eqvAll, eqv_str, eqvAll_map h' ha.2 hb.2]
    obtain ⟨a1, a2⟩ := a
    obtain ⟨b1, b2⟩ := b
    simp, fun a ha => by simp [PyData.canLay0, PyData.canLayAll0, ha.1, layAll_map h' ha.2], fun a ha => by
      have := depAll_map h' ha.2
      simp only [PyData.depth, PyData.depthAll]
      omega⟩
theorem EncOk.mono (h : EncOk D enc k) {E : τ → Prop} (e : ∀ a, E a → D a) : EncOk E enc k := ⟨fun a b ha hb => h.eq a b (e a ha) (e b hb), fun a ha => h.lay a (e a ha), fun a ha => h.dep a (e a ha)⟩
variable {st : Sto} {Q : Vl → Sto → Prop}
theorem EncOk.eqOk (h : EncOk D enc k) (hk : k ≤ 64) {a b : τ} (ha : D a) (hb : D b) : eqOk (enc a) (enc b) = true := by
  unfold Iv.eqOk
  rw [h.lay a ha, h.lay b hb]
  have := h.dep a ha
  simp
  omega
theorem oq_eqE (h : EncOk D enc k) (hk : k ≤ 64) {a b : τ} (ha : D a) (hb : D b) : OptQ (cmpP .Eq (.d (enc a)) (.d (enc b)) st) Q = Q (.d (.bool (decide (a = b)))) st := by
  rw [oq_eqD (h.eqOk hk ha hb), h.eq a b ha hb]
theorem oq_neE (h : EncOk D enc k) (hk : k ≤ 64) {a b : τ} (ha : D a) (hb : D b) : OptQ (cmpP .NotEq (.d (enc a)) (.d (enc b)) st) Q = Q (.d (.bool (!decide (a = b)))) st := by
  rw [oq_neD (h.eqOk hk ha hb), h.eq a b ha hb]
theorem inTe {d : PyData} {ds : List PyData} (h : inOk d ds = true) : OptQ (cmpP .In (.d d) (.d (.tuple ds)) st) Q = Q (.d (.bool (ds.any fun z => PyData.eqv z d))) st := by
  show OptQ (pInA2 false (.d d) (.d (.tuple ds)) st) Q = _
  have : pInA2 false (.d d) (.d (.tuple ds)) st = some (.d (.bool (ds.any fun z => PyData.eqv z d)), st) := by
    simp [pInA2, asK, pIn2, asD, asQ, asT, asL, h]
  rw [this]; rfl
theorem inL {d : PyData} {ds : List PyData} (h : inOk d ds = true) : OptQ (cmpP .In (.d d) (.d (.list ds)) st) Q = Q (.d (.bool (ds.any fun z => PyData.eqv z d))) st := by
  show OptQ (pInA2 false (.d d) (.d (.list ds)) st) Q = _
  have : pInA2 false (.d d) (.d (.list ds)) st = some (.d (.bool (ds.any fun z => PyData.eqv z d)), st) := by
    simp [pInA2, asK, pIn2, asD, asQ, asT, asL, h]
  rw [this]; rfl
theorem ninL {d : PyData} {ds : List PyData} (h : inOk d ds = true) : OptQ (cmpP .NotIn (.d d) (.d (.list ds)) st) Q = Q (.d (.bool (!ds.any fun z => PyData.eqv z d))) st := by
  show OptQ (pInA2 true (.d d) (.d (.list ds)) st) Q = _
  have : pInA2 true (.d d) (.d (.list ds)) st = some (.d (.bool (!ds.any fun z => PyData.eqv z d)), st) := by
    simp [pInA2, asK, pIn2, asD, asQ, asT, asL, h]
  rw [this]; rfl
theorem ninT {d : PyData} {ds : List PyData} (h : inOk d ds = true) : OptQ (cmpP .NotIn (.d d) (.d (.tuple ds)) st) Q = Q (.d (.bool (!ds.any fun z => PyData.eqv z d))) st := by
  show OptQ (pInA2 true (.d d) (.d (.tuple ds)) st) Q = _
  have : pInA2 true (.d d) (.d (.tuple ds)) st = some (.d (.bool (!ds.any fun z => PyData.eqv z d)), st) := by
    simp [pInA2, asK, pIn2, asD, asQ, asT, asL, h]
  rw [this]; rfl
theorem EncOk.inOk (h : EncOk D enc k) (hk : k ≤ 64) {a : τ} {l : List τ} (ha : D a) (hl : ∀ b ∈ l, D b) : inOk (enc a) (l.map enc) = true := by
  unfold Iv.inOk
  rw [h.lay a ha, layAll_map h hl]
  have := h.dep a ha
  simp
  omega
theorem EncOk.any (h : EncOk D enc k) {a : τ} (ha : D a) : ∀ {l : List τ}, (∀ b ∈ l, D b) → ((l.map enc).any fun z => PyData.eqv z (enc a)) = decide (a ∈ l)
  | [], _ => by simp
  | x :: xs, hl => by
    rw [List.map_cons, List.any_cons, h.eq x a (hl x (by simp)) ha, h.any ha fun b hb => hl b (by simp [hb])]
    by_cases q : x = a
    · simp [q]
    · have : ¬ a = x := fun e => q e.symm
      simp [q, this]
theorem oq_inE (h : EncOk D enc k) (hk : k ≤ 64) {a : τ} {l : List τ} (ha : D a) (hl : ∀ b ∈ l, D b) : OptQ (cmpP .In (.d (enc a)) (.d (.list (l.map enc))) st) Q = Q (.d (.bool (decide (a ∈ l)))) st := by
  rw [inL (h.inOk hk ha hl), h.any ha hl]
theorem oq_inET (h : EncOk D enc k) (hk : k ≤ 64) {a : τ} {l : List τ} (ha : D a) (hl : ∀ b ∈ l, D b) : OptQ (cmpP .In (.d (enc a)) (.d (.tuple (l.map enc))) st) Q = Q (.d (.bool (decide (a ∈ l)))) st := by
  rw [inTe (h.inOk hk ha hl), h.any ha hl]
theorem oq_ninE (h : EncOk D enc k) (hk : k ≤ 64) {a : τ} {l : List τ} (ha : D a) (hl : ∀ b ∈ l, D b) : OptQ (cmpP .NotIn (.d (enc a)) (.d (.list (l.map enc))) st) Q = Q (.d (.bool (!decide (a ∈ l)))) st := by
  rw [ninL (h.inOk hk ha hl), h.any ha hl]
theorem oq_ninET (h : EncOk D enc k) (hk : k ≤ 64) {a : τ} {l : List τ} (ha : D a) (hl : ∀ b ∈ l, D b) : OptQ (cmpP .NotIn (.d (enc a)) (.d (.tuple (l.map enc))) st) Q = Q (.d (.bool (!decide (a ∈ l)))) st := by
  rw [ninT (h.inOk hk ha hl), h.any ha hl]
end
/-! ### rows of numbers -/
def intsL (l : List Int) : PyData := .list (l.map .int)
def intsT (l : List Int) : PyData := .tuple (l.map .int)
def pairsT (l : List Pr2) : PyData := .tuple (l.map pairD)
theorem cast_lit {n : Nat} : ((no_index (OfNat.ofNat n) : Nat) : Int) = (OfNat.ofNat n : Int) := rfl
theorem ty_intsL {l : List Int} : tyD (intsL l) = .lst := rfl
theorem ty_intsT {l : List Int} : tyD (intsT l) = .tup := rfl
theorem ty_pairsT {l : List Pr2} : tyD (pairsT l) = .tup := rfl
theorem ty_pairsL {l : List Pr2} : tyD (pairsL l) = .lst := rfl
theorem ty_rowsD {l : List Row} : tyD (rowsD l) = .tup := rfl
theorem ty_rowD {l : Row} : tyD (rowD l) = .tup := rfl
theorem ty_pairD {l : Pr2} : tyD (pairD l) = .tup := rfl
section
variable {st : Sto} {Q : Vl → Sto → Prop}
theorem pl_intsL {l : List Int} : OptQ (pLenA1 (.d (intsL l)) st) Q = Q (.d (.int l.length)) st := by unfold intsL; rw [pl_list, List.length_map]
theorem pl_intsT {l : List Int} : OptQ (pLenA1 (.d (intsT l)) st) Q = Q (.d (.int l.length)) st := by unfold intsT; rw [pl_tuple, List.length_map]
theorem pl_pairsL {l : List Pr2} : OptQ (pLenA1 (.d (pairsL l)) st) Q = Q (.d (.int l.length)) st := by unfold pairsL; rw [pl_list, List.length_map]
theorem pl_pairsT {l : List Pr2} : OptQ (pLenA1 (.d (pairsT l)) st) Q = Q (.d (.int l.length)) st := by unfold pairsT; rw [pl_tuple, List.length_map]
theorem pl_rowsD {l : List Row} : OptQ (pLenA1 (.d (rowsD l)) st) Q = Q (.d (.int l.length)) st := by unfold rowsD; rw [pl_tuple, List.length_map]
theorem EncOk.ints : EncOk (fun _ => True) intsL 1 := by
  have := EncOk.int.list
  exact this.mono fun _ _ _ _ => trivial
theorem oq_eqIs {l l' : List Int} : OptQ (cmpP .Eq (.d (intsL l)) (.d (intsL l')) st) Q = Q (.d (.bool (decide (l = l')))) st := oq_eqE EncOk.ints (by decide) trivial trivial
theorem oq_neIs {l l' : List Int} : OptQ (cmpP .NotEq (.d (intsL l)) (.d (intsL l')) st) Q = Q (.d (.bool (!decide (l = l')))) st := oq_neE EncOk.ints (by decide) trivial trivial
theorem oq_inIs {i : Int} {l : List Int} : OptQ (cmpP .In (.d (.int i)) (.d (intsL l)) st) Q = Q (.d (.bool (decide (i ∈ l)))) st := oq_inE EncOk.int (by decide) trivial fun _ _ => trivial
theorem oq_ninIs {i : Int} {l : List Int} : OptQ (cmpP .NotIn (.d (.int i)) (.d (intsL l)) st) Q = Q (.d (.bool (!decide (i ∈ l)))) st := oq_ninE EncOk.int (by decide) trivial fun _ _ => trivial
theorem oq_inS2 {w : Str} (hw : PyData.strOk w = true) {a b : String} : OptQ (cmpP .In (.d (.str w)) (.d (.tuple [.str (Str.ofString a), .str (Str.ofString b)])) st) Q = Q (.d (.bool (decide (w = Str.ofString a ∨ w = Str.ofString b)))) st := by
  have h := oq_inET (st := st) (Q := Q) EncOk.str (by decide) (a := w) (l := [Str.ofString a, Str.ofString b]) hw (by simp [strOk_ofS])
  rw [show (PyData.tuple [.str (Str.ofString a), .str (Str.ofString b)]) = .tuple ([Str.ofString a, Str.ofString b].map .str) from rfl, h]
  simp
theorem neg_ofNat {n : Nat} : -(OfNat.ofNat n : Int) = -(OfNat.ofNat n) := rfl
end
end Iv
set_option Elab.async false
set_option linter.all false
set_option maxRecDepth 100000
set_option maxHeartbeats 4000000
/-! Wa3: are_loops, are_jumps of sound rows. -/
namespace Iv
open PySem
local macro_rules   | `(tactic| ktr_call $a:term $b:term) => `(tactic| simp (config := { maxSteps := 400000, failIfUnchanged := false, implicitDefEqProofs := false }) only [↓sw_bad, ↓sw_seq, ↓sw_next, ↓sw_set, ↓sw_ret, ↓sw_retN, ↓sw_drop, ↓sw_if, ↓sw_sub, ↓sw_asg, ↓sw_par, ↓wp_bind, ↓wp_ret, ↓wp_cM, ↓wp_nil, ↓wp_cons, ↓wp_v0, ↓wp_vs, ↓wp_ty, ↓wp_gl, ↓wp_bin, ↓wp_un, ↓wp_callP, ↓wp_callF, ↓wp_g1, ↓wp_g2, ↓wp_g3, ↓wp_g4,       ↓wp_bM, ↓wp_asB, ↓wp_notM, ↓wp_orM, ↓wp_andM, ↓wp_tst, ↓wp_trub, ↓tru_int, ↓tru_none, ↓tru_list, ↓tru_tuple, ↓wp_andV, ↓wp_orV, ↓wp_notV, ↓wp_ifV, ↓wp_chain, ↓wp_frzD, ↓wp_tupM, ↓oq_tuple0, ↓wp_lstM, ↓wp_lstC, ↓frzs_nil, ↓frzs_cons, ↓frzs_ref, ↓wp_retL', ↓wp_retT', ↓wp_newC', ↓wp_meth1, ↓wp_meth2, ↓wp_isL, ↓oq_append, ↓oq_pop, ↓pl_ref, ↓ix_ref', ↓ex_lst, ↓ls_r, ↓ls_0, ↓ls_1, ↓ls_2, ↓stw_r, ↓stw_k, ↓stw_k0, ↓stw_set, ↓stw_setk, ↓stw_setk0, ↓stw_app, ↓stw_len, ↓stw_back, ↓stw_new,       ↓oq_l1, ↓oq_l2, ↓oq_add, ↓oq_sub, ↓oq_mul, ↓oq_neg, ↓oq_max, ↓oq_min, ↓oq_mod, ↓oq_fdiv, ↓oq_abs, ↓oq_intB, ↓oq_le, ↓oq_lt, ↓oq_ge, ↓oq_gt, ↓oq_eqI, ↓oq_neI, ↓oq_eqS', ↓ty_intsL, ↓ty_intsT, ↓ty_pairsT, ↓ty_pairsL, ↓ty_rowsD, ↓ty_rowD, ↓ty_pairD, ↓pl_pairsT, ↓pl_intsL, ↓pl_intsT, ↓pl_pairsL, ↓pl_rowsD, ↓oq_eqIs, ↓oq_neIs, ↓oq_inIs, ↓oq_ninIs, ↓pl_list, ↓pl_tuple, ↓oq_isi, ↓ix_tup, ↓ix_lst, ↓at_0, ↓at_1, ↓at_nat, ↓at_m1, ↓on_some, ↓on_none, ↓on_map, ↓asgQ_some, ↓asgQ_none, ↓aName, ↓aTup_tup, ↓aTup_lst, ↓aCons_cons, ↓aNil_nil, ↓back_take, ↓back_set, ↓ty_int, ↓ty_bool, ↓ty_str, ↓ty_list, ↓ty_tuple, ↓isi_self, ↓isi_ib,       ↓List.set_cons_succ, ↓List.set_cons_zero, List.set_cons_succ, List.set_cons_zero, wp_v0, wp_vs, wipe_nil, wipe_cons, implies_true, forall_const, ↓wp_slM, ↓wp_noO, ↓wp_someO, ↓wp_asI, ↓sl_list, ↓sl_tuple, ↓Option.bind_some, ↓$a, ↓$b, decide_eq_true_eq, Bool.not_eq_true', decide_eq_false_iff_not, ↓reduceIte, true_and, and_true, if_true, if_false, List.length_cons, List.length_nil, Nat.add_zero, Nat.zero_add, List.nil_append, List.cons_append, List.zip_cons_cons, List.zip_nil_left, List.zip_nil_right, List.foldl_cons, List.foldl_nil, ne_eq, not_true_eq_false, not_false_eq_true, reduceCtorEq, Bool.true_eq_false, Bool.false_eq_true, Bool.not_true, Bool.not_false, Bool.not_not, Nat.reduceAdd, sizeLine_eq, Nat.reduceLeDiff, cast_lit, Int.reduceEq, Int.reduceLT, Int.reduceLE, Int.reduceNeg]) 
abbrev sCount : Str := "count"
def posL (w : Str) (rows : List Row) : List Int := (rows.zipIdx.filter fun q => decide (q.1.1 = w)).map fun q => (q.2 : Int)
theorem posL_asc (w : Str) (rows : List Row) : (posL w rows).Pairwise (· ≤ ·) := by
  unfold posL
  rw [List.pairwise_map]
  refine List.Pairwise.filter _ ?_
  rw [List.pairwise_iff_getElem]
  intro i j hi hj hij
  simp
  omega
theorem sortD_ints {l : List Int} (h : l.Pairwise (· ≤ ·)) : sortD (l.map .int) = l.map .int := by
  unfold sortD
  refine List.mergeSort_of_pairwise ?_
  rw [List.pairwise_map]
  refine h.imp fun {a b} hab => ?_
  have e := congrFun (congrFun (PySem.W.dataLe_int (fun i : Int => i)) a) b
  show PySem.W.dataLe false (fun d : PyData => d) (.int a) (.int b) = true
  have e2 : PySem.W.dataLe false (fun d : PyData => d) (.int a) (.int b) = PySem.W.dataLe false (fun b : Int => PyData.int b) a b := rfl
  rw [e2, e]
  exact decide_eq_true hab
theorem sortOk_ints {l : List Int} (h : l.length ≤ sizeLine) : sortOk (l.map .int) = true := by
  unfold sortOk allAlikeB
  simp only [Bool.and_eq_true, Bool.or_eq_true, decide_eq_true_eq, List.all_eq_true, List.length_map]
  refine ⟨fun d hd e he => ?_, .inr fun d hd => ?_, h, fun d hd => ?_⟩
  · obtain ⟨p, _, rfl⟩ := List.mem_map.mp hd
    obtain ⟨q, _, rfl⟩ := List.mem_map.mp he
    simp [PySem.W.alike]
  · obtain ⟨p, _, rfl⟩ := List.mem_map.mp hd
    rfl
  · obtain ⟨p, _, rfl⟩ := List.mem_map.mp hd
    refine ⟨rfl, ?_⟩
    simp [PyData.depth]
section
variable {st : Sto} {ρ : Env} {P : Pg}
theorem oq_sortedI {l : List Int} {Q : Vl → Sto → Prop} (h : l.length ≤ sizeLine) (ha : l.Pairwise (· ≤ ·)) : OptQ (pSorted1 (.d (intsL l)) st) Q = Q (.d (intsL l)) st := by
  show OptQ (pSorted1 (.d (.list (l.map .int))) st) Q = _
  unfold pSorted1
  simp only [asL, Option.bind_some, if_pos (sortOk_ints h), sortD_ints ha]
  rfl
/-- what is asked of the loops of rows -/
structure LoopsOk (rows : List Row) (L : List Pr2) : Prop where
  many : L.length ≤ 1000
  srt : L.Pairwise fun p q => le2 p q = true
  cnt : posL sCount rows = L.map (·.1)
  lt : ∀ p ∈ L, p.1 < p.2
  ap : L.Pairwise fun p q => apartB p q = true
  deep : ∀ i : Nat, i < rows.length → (aroundL L i).length ≤ 2

theorem oq_all' {α : Type} {xs : List α} {p : α → Bool} {Q : Vl → Sto → Prop} : OptQ (pAll [.d (.list (xs.map fun x => .bool (p x)))] st) Q = Q (.d (.bool (xs.all p))) st := oq_all
theorem apart_is (C : CodeP P) {m : Nat} (hm : 0 < m) {p q : Pr2} (hle : le2 p q = true) : Is (callN P m "is_apart" [.d (pairD p), .d (pairD q)]) st (.d (.bool (apartB p q))) := is_of (apart_wp C hm hle ⟨rfl, rfl⟩)
theorem around_is (C : CodeP P) {m : Nat} (hm : 0 < m) {l : List Pr2} {row : Int} (hz : l.length ≤ 1000) : Is (callN P m "around_by" [.d (pairsL l), .d (.int row)]) st (.d (intsL (aroundL l row))) := is_of (around_wp C hm hz ⟨rfl, rfl⟩)
theorem mem_zip {α : Type} {l : List α} {r : α} {j : Nat} (h : (r, j) ∈ l.zipIdx) : r ∈ l := by
  have := List.mem_zipIdx h
  obtain ⟨_, _, h3⟩ := this
  rw [h3]
  exact List.getElem_mem _
theorem loops_is (C : CodeP P) {m : Nat} (hm : 1 < m) {rows : List Row} {L : List Pr2} (ok : ∀ r ∈ rows, PyData.strOk r.1 = true) (hz : rows.length ≤ 1000) (hL : LoopsOk rows L) :
    Is (callN P m "are_loops" [.d (rowsD rows), .d (pairsL L)]) st (.d (.bool true)) := by
  refine C.loops.is (k := 1) hm fun m' hm' => ?_
  show SWp _ [some (.d (rowsD rows)), some (.d (pairsL L)), none, none, none, none, none, none, none] st _ _
  have hpl : (posL sCount rows).length ≤ sizeLine := by
    rw [hL.cnt, List.length_map, sizeLine_eq]
    have := hL.many
    omega
  have hLm := hL.many
  unfold b_are_loops
  ktr_call trivial trivial
  refine wp_lcT (l := rows.zipIdx) (fun q => decide (q.1.1 = sCount)) (fun q => .int (q.2 : Int)) (itE (a := .d (rowsD rows)) (l := rows) (by ktr_call trivial trivial) fun _ => rfl) (by rw [List.length_zipIdx]; omega) (fun q hq => ⟨_, rfl, ?_⟩) ?_
  · ktr_call (@ix_row0 st q.1) (@oq_eqW st q.1.1 (ok _ (mem_zip hq)))
  · have e0 : (PyData.list ((rows.zipIdx.filter fun q => decide (q.1.1 = sCount)).map fun q => PyData.int (q.2 : Int))) = intsL (posL sCount rows) := by unfold intsL posL; rw [List.map_map]; rfl
    rw [e0]
    ktr_call (fun Q => @oq_sortedI st (posL sCount rows) Q hpl (posL_asc _ _)) trivial
    refine wp_lcY (l := L) (fun p => .int p.1) (itL (enc := pairD) (l := L) (by ktr_call trivial trivial; rfl)) (by omega) (fun p hp => ⟨_, rfl, ?_⟩) ?_
    · ktr_call trivial trivial
    have e1 : (PyData.list (L.map fun p => PyData.int p.1)) = intsL (posL sCount rows) := by
      rw [hL.cnt]
      unfold intsL
      rw [List.map_map]
      rfl
    rw [e1]
    ktr_call trivial trivial
    refine wp_lcY (l := L) (fun p => .bool (decide (p.1 < p.2))) (itL (enc := pairD) (l := L) (by ktr_call trivial trivial; rfl)) (by omega) (fun p hp => ⟨_, rfl, ?_⟩) ?_
    · ktr_call trivial trivial
    ktr_call (fun Q => @oq_all' st Pr2 L (fun p => decide (p.1 < p.2)) Q) trivial
    rw [if_neg (by rw [List.all_eq_true.mpr fun p hp => decide_eq_true (hL.lt p hp)]; decide)]
    refine sw_forT (l := L.zipIdx) (itE (a := .d (pairsL L)) (enc := pairD) (l := L) (by ktr_call trivial trivial) fun _ => rfl)
      (fun pre ρ' st' => st' = st ∧ ∃ x3 x7, ρ' = [some (.d (rowsD rows)), some (.d (pairsL L)), some (.d (intsL (posL sCount rows))), x3, none, none, none, x7, none]) ⟨rfl, _, _, rfl⟩ (fun pre t post e ρ' st' hI => ?_) fun ρ' st' hI => ?_
    · obtain ⟨rfl, x3, x7, rfl⟩ := hI
      refine ⟨_, rfl, ?_⟩
      obtain ⟨p, i⟩ := t
      have hm : (p, i) ∈ L.zipIdx := by rw [e]; simp
      obtain ⟨_, hlt, hp⟩ := List.mem_zipIdx hm
      simp only [Nat.sub_zero, Nat.zero_add] at hlt hp
      have after : ∀ q ∈ L.drop (i + 1), le2 p q = true ∧ apartB p q = true := fun q hq => by
        obtain ⟨j, hj, hq⟩ := List.mem_iff_getElem.mp hq
        rw [List.getElem_drop] at hq
        rw [List.length_drop] at hj
        have s1 := List.pairwise_iff_getElem.mp hL.srt i (i + 1 + j) hlt (by omega) (by omega)
        have s2 := List.pairwise_iff_getElem.mp hL.ap i (i + 1 + j) hlt (by omega) (by omega)
        rw [← hp, hq] at s1 s2
        exact ⟨s1, s2⟩
      ktr_call trivial trivial
      refine wp_lcY (l := L.drop (i + 1)) (fun q => .bool (apartB p q)) (itL (enc := pairD) (l := L.drop (i + 1)) (by ktr_call trivial trivial; rw [pairsL, sl_list, cut_from1, List.map_drop]; exact ⟨rfl, rfl⟩)) (by rw [List.length_drop]; omega) (fun q hq => ⟨_, rfl, ?_⟩) ?_
      · ktr_call (Is.wp (apart_is (st := st') C (show 0 < m' by omega) (after q hq).1)) trivial
      ktr_call (fun Q => @oq_all' st' Pr2 (L.drop (i + 1)) (fun q => apartB p q) Q) trivial
      rw [if_neg (by rw [List.all_eq_true.mpr fun q hq => (after q hq).2]; decide)]
      exact ⟨_, _, rfl⟩
    · obtain ⟨rfl, x3, x7, rfl⟩ := hI
      have _n := hm
      refine wp_lcY (l := List.range rows.length) (fun i => .bool (decide ((aroundL L i).length ≤ 2))) (it1 (n := rows.length) (by ktr_call trivial trivial) (by omega)) (by simp; omega) (fun i hi => ⟨_, rfl, ?_⟩) ?_
      · ktr_call (fun row Q => (around_is (st := st') (row := row) C (show 0 < m' by omega) hLm).wp (Q := Q)) trivial
        congr 2; exact decide_eq_decide.mpr (by omega)
      ktr_call (fun Q => @oq_all' st' Nat (List.range rows.length) (fun i => decide ((aroundL L i).length ≤ 2)) Q) trivial
      rw [List.all_eq_true.mpr fun i hi => decide_eq_true (hL.deep i (List.mem_range.mp hi))]
theorem around_len (l : List Pr2) (i : Int) : (aroundL l i).length ≤ l.length := by
  unfold aroundL
  rw [List.length_map]
  exact List.length_filter_le _ _
/-- what is asked of the jumps -/
def JumpsOk (rows : List Row) (L : List Pr2) : Prop := ∀ q ∈ rows.zipIdx, (q.1.1 = "test" ∨ q.1.1 = "go") → ∃ t : Int, q.1.2.getLast? = some t ∧ (q.2 : Int) < t ∧ ∀ p ∈ aroundL L t, p ∈ aroundL L q.2
theorem jumps_is (C : CodeP P) {m : Nat} (hm : 1 < m) {rows : List Row} {L : List Pr2} (ok : ∀ r ∈ rows, PyData.strOk r.1 = true) (hz : rows.length ≤ 1000) (hL : L.length ≤ 1000) (hJ : JumpsOk rows L) :
    Is (callN P m "are_jumps" [.d (rowsD rows), .d (pairsL L)]) st (.d (.bool true)) := by
  refine C.jumps.is (k := 1) hm fun m' hm' => ?_
  show SWp _ [some (.d (rowsD rows)), some (.d (pairsL L)), none, none, none, none] st _ _
  unfold b_are_jumps
  ktr_call trivial trivial
  refine sw_forT (l := rows.zipIdx) (itE (a := .d (rowsD rows)) (enc := rowD) (l := rows) (by ktr_call trivial trivial) fun _ => rfl)
    (fun pre ρ' st' => st' = st ∧ ∃ x2 x3 x4, ρ' = [some (.d (rowsD rows)), some (.d (pairsL L)), x2, x3, x4, none]) ⟨rfl, _, _, _, rfl⟩ (fun pre t post e ρ' st' hI => ?_) fun ρ' st' hI => ?_
  · obtain ⟨rfl, x2, x3, x4, rfl⟩ := hI
    obtain ⟨r, i⟩ := t
    have hr : (r, i) ∈ rows.zipIdx := by rw [e]; simp
    have so := ok _ (mem_zip hr)
    refine ⟨_, rfl, ?_⟩
    ktr_call (fun Q => @ix_row0 st' r Q) (fun Q a b => @oq_inS2 st' Q r.1 so a b)
    by_cases hj : r.1 = "test" ∨ r.1 = "go"
    · obtain ⟨t, h1, h2, h3⟩ := hJ _ hr hj
      have har := fun row Q => (around_is (st := st') (row := row) C (show 0 < m' by omega) hL).wp (Q := Q)
      rw [if_pos hj]
      ktr_call har (fun Q => @ix_rowm1 st' r t h1 Q)
      rw [if_neg (by simpa using h2)]
      refine wp_lcY (l := aroundL L t) (enc := .int) (fun p => .bool (decide (p ∈ aroundL L i))) (itL (enc := .int) (l := aroundL L t) (by ktr_call har (fun Q => @ix_rowm1 st' r t h1 Q); rfl)) (Nat.le_trans (around_len L t) (by omega)) (fun p hp => ⟨_, rfl, ?_⟩) ?_
      · ktr_call trivial trivial
      ktr_call (fun Q => @oq_all' st' Int (aroundL L t) (fun p => decide (p ∈ aroundL L i)) Q) trivial
      rw [if_neg (by rw [List.all_eq_true.mpr fun p hp => decide_eq_true (h3 p hp)]; decide)]
      exact ⟨_, _, _, rfl⟩
    · rw [if_neg hj]
      exact ⟨_, _, _, rfl⟩
  · obtain ⟨rfl, x2, x3, x4, rfl⟩ := hI
    ktr_call trivial trivial
end
end Iv
set_option Elab.async false
set_option linter.all false
set_option maxRecDepth 100000
set_option maxHeartbeats 4000000
/-! Wa4: is_code of sound codes. -/
namespace Iv
open PySem
local macro_rules   | `(tactic| ktr_call $a:term $b:term) => `(tactic| simp (config := { maxSteps := 400000, failIfUnchanged := false, implicitDefEqProofs := false }) only [↓sw_bad, ↓sw_seq, ↓sw_next, ↓sw_set, ↓sw_ret, ↓sw_retN, ↓sw_drop, ↓sw_if, ↓sw_sub, ↓sw_asg, ↓sw_par, ↓wp_bind, ↓wp_ret, ↓wp_cM, ↓wp_nil, ↓wp_cons, ↓wp_v0, ↓wp_vs, ↓wp_ty, ↓wp_gl, ↓wp_bin, ↓wp_un, ↓wp_callP, ↓wp_callF, ↓wp_g1, ↓wp_g2, ↓wp_g3, ↓wp_g4,       ↓wp_bM, ↓wp_asB, ↓wp_notM, ↓wp_orM, ↓wp_andM, ↓wp_tst, ↓wp_trub, ↓tru_int, ↓tru_none, ↓tru_list, ↓tru_tuple, ↓wp_andV, ↓wp_orV, ↓wp_notV, ↓wp_ifV, ↓wp_chain, ↓wp_frzD, ↓wp_tupM, ↓oq_tuple0, ↓wp_lstM, ↓wp_lstC, ↓frzs_nil, ↓frzs_cons, ↓frzs_ref, ↓wp_retL', ↓wp_retT', ↓wp_newC', ↓wp_meth1, ↓wp_meth2, ↓wp_isL, ↓oq_append, ↓oq_pop, ↓pl_ref, ↓ix_ref', ↓ex_lst, ↓ls_r, ↓ls_0, ↓ls_1, ↓ls_2, ↓stw_r, ↓stw_k, ↓stw_k0, ↓stw_set, ↓stw_setk, ↓stw_setk0, ↓stw_app, ↓stw_len, ↓stw_back, ↓stw_new,       ↓oq_l1, ↓oq_l2, ↓oq_add, ↓oq_sub, ↓oq_mul, ↓oq_neg, ↓oq_max, ↓oq_min, ↓oq_mod, ↓oq_fdiv, ↓oq_abs, ↓oq_intB, ↓oq_le, ↓oq_lt, ↓oq_ge, ↓oq_gt, ↓oq_eqI, ↓oq_neI, ↓oq_eqS', ↓ty_intsL, ↓ty_intsT, ↓ty_pairsT, ↓ty_pairsL, ↓ty_rowsD, ↓ty_rowD, ↓ty_pairD, ↓pl_pairsT, ↓pl_intsL, ↓pl_intsT, ↓pl_pairsL, ↓pl_rowsD, ↓oq_eqIs, ↓oq_neIs, ↓oq_inIs, ↓oq_ninIs, ↓pl_list, ↓pl_tuple, ↓oq_isi, ↓ix_tup, ↓ix_lst, ↓at_0, ↓at_1, ↓at_nat, ↓at_m1, ↓on_some, ↓on_none, ↓on_map, ↓asgQ_some, ↓asgQ_none, ↓aName, ↓aTup_tup, ↓aTup_lst, ↓aCons_cons, ↓aNil_nil, ↓back_take, ↓back_set, ↓ty_int, ↓ty_bool, ↓ty_str, ↓ty_list, ↓ty_tuple, ↓isi_self, ↓isi_ib,       ↓List.set_cons_succ, ↓List.set_cons_zero, List.set_cons_succ, List.set_cons_zero, wp_v0, wp_vs, wipe_nil, wipe_cons, implies_true, forall_const, ↓wp_slM, ↓wp_noO, ↓wp_someO, ↓wp_asI, ↓sl_list, ↓sl_tuple, ↓Option.bind_some, ↓$a, ↓$b, decide_eq_true_eq, Bool.not_eq_true', decide_eq_false_iff_not, ↓reduceIte, true_and, and_true, if_true, if_false, List.length_cons, List.length_nil, Nat.add_zero, Nat.zero_add, List.nil_append, List.cons_append, List.zip_cons_cons, List.zip_nil_left, List.zip_nil_right, List.foldl_cons, List.foldl_nil, ne_eq, not_true_eq_false, not_false_eq_true, reduceCtorEq, Bool.true_eq_false, Bool.false_eq_true, Bool.not_true, Bool.not_false, Bool.not_not, Nat.reduceAdd, sizeLine_eq, Nat.reduceLeDiff, cast_lit, Int.reduceEq, Int.reduceLT, Int.reduceLE, Int.reduceNeg]) 
abbrev sEnd : Str := "end"
def limD (many : Int) (na n : Nat) : DKv := [(.str "register", .tuple [.int 0, .int (many - 1)]), (.str "worth", .tuple [.int 0, .int 255]), (.str "array", .tuple [.int 0, .int ((na : Int) - 1)]), (.str "row", .tuple [.int 0, .int ((n : Int) - 1)]), (.str "rounds", .tuple [.int 1, .int 6])]
structure Code where
  asks : List Pr2
  many : Int
  shown : Int
  sizes : List Int
  rows : List Row
def Code.d (c : Code) : PyData := .tuple [pairsT c.asks, .int c.many, .int c.shown, intsT c.sizes, rowsD c.rows]
abbrev Code.loops (c : Code) : List Pr2 := loopsL c.rows
structure Code.Ok (c : Code) : Prop where
  asks1 : c.asks.length ≤ 3
  asks2 : ∀ p ∈ c.asks, 0 ≤ p.1 ∧ p.1 ≤ p.2 ∧ p.2 ≤ 255
  many1 : 1 ≤ c.many
  many2 : (c.asks.length : Int) ≤ c.many
  many3 : c.many ≤ 16
  shown1 : 0 ≤ c.shown
  shown2 : c.shown ≤ c.many
  sizes1 : c.sizes.length ≤ 2
  sizes2 : ∀ s ∈ c.sizes, 1 ≤ s ∧ s ≤ 6
  rows1 : 1 ≤ c.rows.length
  rows2 : c.rows.length ≤ 60
  rows3 : ∀ r ∈ c.rows, RowOk (limD c.many c.sizes.length c.rows.length) r
  ends : posL sEnd c.rows = [(c.rows.length : Int) - 1]
  loops : LoopsOk c.rows c.loops
  jumps : JumpsOk c.rows c.loops
theorem lookup_mem' {α : Type} {x : Str} {a : α} : ∀ {l : List (Str × α)}, l.lookup x = some a → (x, a) ∈ l
  | [], h => by cases h
  | (y, b) :: l, h => by
    rw [List.lookup_cons] at h
    by_cases e : x = y
    · subst e; simp at h; simp [h]
    · have : (x == y) = false := by simpa using e
      rw [this] at h
      exact List.mem_cons_of_mem _ (lookup_mem' h)
/-- the words -/
theorem RowOk.strOk {kvs : DKv} {r : Row} (h : RowOk kvs r) : PyData.strOk r.1 = true := by
  obtain ⟨kinds, h1, _⟩ := h
  have := lookup_mem' h1
  have all : ∀ q ∈ tab_FORMS, PyData.strOk q.1 = true := by
    intro q hq
    simp only [tab_FORMS, List.mem_cons, List.not_mem_nil, or_false] at hq
    rcases hq with rfl | rfl | rfl | rfl | rfl | rfl | rfl | rfl | rfl | rfl | rfl | rfl | rfl | rfl | rfl <;> exact strOk_ofS _
  exact all _ this
theorem RowOk.again {kvs : DKv} {r : Row} (h : RowOk kvs r) (e : r.1 = sAgain) : ∃ t, r.2 = [t] := by
  obtain ⟨kinds, h1, h2, _⟩ := h
  rw [e] at h1
  have : kinds.length = 1 := by
    have e2 : tab_FORMS.lookup sAgain = some (.d (.tuple [.str "row"])) := by kernel_rfl
    rw [e2] at h1
    have := congrArg (fun x : Option DV => match x with | some (.d (.tuple l)) => l.length | _ => 0) h1
    simpa using this.symm
  rw [this] at h2
  obtain ⟨t, ht⟩ := List.length_eq_one_iff.mp h2
  exact ⟨t, ht⟩
section
variable {st : Sto} {ρ : Env} {P : Pg}
theorem limits_is (C : CodeP P) {m : Nat} (hm : 0 < m) {many : Int} {sizes : List Int} {rows : List Row} : Is (callN P m "limits_of" [.d (.int many), .d (intsT sizes), .d (rowsD rows)]) st (.d (.dict (limD many sizes.length rows.length))) := by
  have e1 : ((sizes.map PyData.int).length : Int) = sizes.length := by rw [List.length_map]
  have e2 : ((rows.map rowD).length : Int) = rows.length := by rw [List.length_map]
  refine C.limits.is (k := 0) hm fun m' hm' => ?_
  show SWp _ [some (.d (.int many)), some (.d (intsT sizes)), some (.d (rowsD rows))] st _ _
  unfold limD
  rw [← e1, ← e2]
  have : ∀ x : PyData, Back st.length (.d x) st fun v' s => v' = .d x ∧ s = st := fun x => by rw [back_take]; exact ⟨rfl, rfl⟩
  exact this _
theorem row_is (C : CodeP P) {m : Nat} (hm : 3 < m) {kvs : DKv} {r : Row} (hr : RowOk kvs r) : Is (callN P m "is_row_within" [.d (.dict kvs), .d (rowD r)]) st (.d (.bool true)) := is_of (row_wp C hm hr ⟨rfl, rfl⟩)
theorem span_is (C : CodeP P) {m : Nat} (hm : 2 < m) {p : Pr2} (h1 : 0 ≤ p.1) (h2 : p.1 ≤ p.2) (h3 : p.2 ≤ 255) : Is (callN P m "is_span" [.d (pairD p)]) st (.d (.bool true)) := is_of (span_wp C hm h1 h2 h3 ⟨rfl, rfl⟩)
theorem loopsBy_is (C : CodeP P) {m : Nat} (hm : 0 < m) {rows : List Row} (ok : AgOk rows) (hz : rows.length ≤ 1000) : Is (callN P m "loops_by" [.d (rowsD rows)]) st (.d (pairsL (loopsL rows))) := is_of (loopsBy_wp C hm ok hz ⟨rfl, rfl⟩)
theorem all_t {α : Type} {l : List α} : (l.all fun _ => true) = true := by simp
theorem rows_is (C : CodeP P) {m : Nat} (hm : 4 < m) {c : Code} (ok : c.Ok) : Is (callN P m "are_rows" [.d (.dict (limD c.many c.sizes.length c.rows.length)), .d (rowsD c.rows)]) st (.d (.bool true)) := by
  refine C.rows.is (k := 4) hm fun m' hm' => ?_
  show SWp _ [some (.d (.dict (limD c.many c.sizes.length c.rows.length))), some (.d (rowsD c.rows)), none, none, none] st _ _
  have r1 := ok.rows1
  have r2 := ok.rows2
  have so : ∀ r ∈ c.rows, PyData.strOk r.1 = true := fun r hr => (ok.rows3 r hr).strOk
  unfold b_are_rows
  have tr : ∀ Q, OptQ (pIsi [.d (rowsD c.rows), .ty .tup] st) Q = Q (.d (.bool true)) st := fun Q => oq_isi .tup (by decide)
  ktr_call tr trivial
  rw [if_pos (by omega), if_neg (by omega)]
  refine wp_lcY (l := c.rows) (enc := rowD) (fun _ => .bool true) (itT (enc := rowD) (l := c.rows) (by ktr_call trivial trivial; rfl)) (by omega) (fun p hp => ⟨_, rfl, ?_⟩) ?_
  · ktr_call (Is.wp (row_is (st := st) C (show 3 < m' by omega) (ok.rows3 p hp))) trivial
  ktr_call (fun Q => @oq_all' st Row c.rows (fun _ => true) Q) (@all_t Row c.rows)
  refine wp_lcT (l := c.rows.zipIdx) (fun q => decide (q.1.1 = sEnd)) (fun q => .int (q.2 : Int)) (itE (a := .d (rowsD c.rows)) (l := c.rows) (enc := rowD) (by ktr_call trivial trivial) fun _ => rfl) (by rw [List.length_zipIdx]; omega) (fun q hq => ⟨_, rfl, ?_⟩) ?_
  · ktr_call (@ix_row0 st q.1) (@oq_eqW st q.1.1 (so _ (mem_zip hq)))
  have e0 : (PyData.list ((c.rows.zipIdx.filter fun q => decide (q.1.1 = sEnd)).map fun q => PyData.int (q.2 : Int))) = intsL (posL sEnd c.rows) := by unfold intsL posL; rw [List.map_map]; rfl
  rw [e0, ok.ends]
  have e1 : ∀ Q, OptQ (cmpP .NotEq (.d (intsL [(c.rows.length : Int) - 1])) (.d (.list [.int ((c.rows.length : Int) - 1)])) st) Q = Q (.d (.bool (!decide ([(c.rows.length : Int) - 1] = [(c.rows.length : Int) - 1])))) st := fun Q => oq_neIs (l := [(c.rows.length : Int) - 1]) (l' := [(c.rows.length : Int) - 1])
  ktr_call e1 trivial
  have ag : AgOk c.rows := fun r hr => ⟨so r hr, (ok.rows3 r hr).again⟩
  ktr_call (Is.wp (loopsBy_is (st := st) C (show 0 < m' by omega) ag (show c.rows.length ≤ 1000 by omega))) trivial
  have _n := hm
  show Wp (callN P m' "are_loops" [.d (rowsD c.rows), .d (pairsL c.loops)]) st _
  ktr_call (Is.wp (loops_is (st := st) C (show 1 < m' by omega) so (by omega) ok.loops)) (Is.wp (jumps_is (st := st) C (show 1 < m' by omega) so (by omega) ok.loops.many ok.jumps))
theorem code_is (C : CodeP P) {m : Nat} (hm : 5 < m) {c : Code} (ok : c.Ok) : Is (callN P m "is_code" [.d c.d]) st (.d (.bool true)) := by
  refine C.code.is (k := 5) hm fun m' hm' => ?_
  show SWp _ [some (.d c.d), none, none, none, none, none, none, none] st _ _
  unfold b_is_code Code.d
  have btw := fun d lo hi Q => (is_of (between_wp (st := st) (m := m') (d := d) (lo := lo) (hi := hi) C.whole C.between (by omega) ⟨rfl, rfl⟩)).wp (Q := Q)
  have a1 := ok.asks1
  have m1 := ok.many1
  have m2 := ok.many2
  have m3 := ok.many3
  have s1 := ok.shown1
  have s2 := ok.shown2
  have z1 := ok.sizes1
  ktr_call btw trivial
  rw [if_neg (by omega)]
  refine wp_lcY (l := c.asks) (enc := pairD) (fun _ => .bool true) (itT (enc := pairD) (l := c.asks) (by ktr_call trivial trivial; rfl)) (by omega) (fun p hp => ⟨_, rfl, ?_⟩) ?_
  · have ⟨h1, h2, h3⟩ := ok.asks2 p hp
    ktr_call (Is.wp (span_is (st := st) C (show 2 < m' by omega) h1 h2 h3)) trivial
  ktr_call (fun Q => @oq_all' st Pr2 c.asks (fun _ => true) Q) (And.intro (@all_t Pr2 c.asks) btw)
  have b1 : betweenD (.int c.many) (max 1 (c.asks.length : Int)) 16 = true := by simp only [betweenD, decide_eq_true_eq]; omega
  have b2 : betweenD (.int c.shown) 0 c.many = true := by simp only [betweenD, decide_eq_true_eq]; omega
  rw [if_neg (by simp [b1]), if_neg (by simp [b2]), if_neg (by omega)]
  refine wp_lcY (l := c.sizes) (enc := .int) (fun _ => .bool true) (itT (enc := .int) (l := c.sizes) (by ktr_call trivial trivial; rfl)) (by omega) (fun p hp => ⟨_, rfl, ?_⟩) ?_
  · ktr_call btw trivial
    simp only [betweenD, decide_eq_true_eq.mpr (ok.sizes2 p hp)]
  ktr_call (fun Q => @oq_all' st Int c.sizes (fun _ => true) Q) (@all_t Int c.sizes)
  ktr_call (Is.wp (limits_is (st := st) (many := c.many) (sizes := c.sizes) (rows := c.rows) C (show 0 < m' by omega))) (Is.wp (rows_is (st := st) C (show 4 < m' by omega) ok))
theorem ix_code4 {c : Code} {Q : Vl → Sto → Prop} : OptQ (pIxA2 (.d c.d) (.d (.int 4)) st) Q = Q (.d (rowsD c.rows)) st := by
  unfold Code.d
  rw [ix_tup, show (4 : Int) = ((4 : Nat) : Int) from rfl, at_nat]
  rfl
theorem ix_code3 {c : Code} {Q : Vl → Sto → Prop} : OptQ (pIxA2 (.d c.d) (.d (.int 3)) st) Q = Q (.d (intsT c.sizes)) st := by
  unfold Code.d
  rw [ix_tup, show (3 : Int) = ((3 : Nat) : Int) from rfl, at_nat]
  rfl
theorem ix_code2 {c : Code} {Q : Vl → Sto → Prop} : OptQ (pIxA2 (.d c.d) (.d (.int 2)) st) Q = Q (.d (.int c.shown)) st := by
  unfold Code.d
  rw [ix_tup, show (2 : Int) = ((2 : Nat) : Int) from rfl, at_nat]
  rfl
theorem ix_code1 {c : Code} {Q : Vl → Sto → Prop} : OptQ (pIxA2 (.d c.d) (.d (.int 1)) st) Q = Q (.d (.int c.many)) st := by
  unfold Code.d
  rw [ix_tup, show (1 : Int) = ((1 : Nat) : Int) from rfl, at_nat]
  rfl
theorem ix_code0 {c : Code} {Q : Vl → Sto → Prop} : OptQ (pIxA2 (.d c.d) (.d (.int 0)) st) Q = Q (.d (pairsT c.asks)) st := by
  unfold Code.d
  rw [ix_tup, show (0 : Int) = ((0 : Nat) : Int) from rfl, at_nat]
  rfl
structure CodeP1 (P : Pg) : Prop extends CodeP P where
  needCode : HasB P "need_code" 1 b_need_code
structure CodeP2 (P : Pg) : Prop extends CodeP1 P where
  needRow : HasB P "need_row" 2 b_need_row
  loopsOf : HasB P "loops_of" 1 b_loops_of
  around : HasB P "around" 2 b_around
theorem needCode_is (C : CodeP1 P) {m : Nat} (hm : 6 < m) {c : Code} (ok : c.Ok) : Is (callN P m "need_code" [.d c.d]) st (.d .none) := by
  refine C.needCode.is (k := 6) hm fun m' hm' => ?_
  show SWp _ [some (.d c.d)] st _ _
  unfold b_need_code
  ktr_call (Is.wp (code_is (st := st) C.toCodeP (show 5 < m' by omega) ok)) trivial
theorem needRow_is (C : CodeP2 P) {m : Nat} (hm : 7 < m) {c : Code} (ok : c.Ok) {i : Int} (h1 : 0 ≤ i) (h2 : i < c.rows.length) : Is (callN P m "need_row" [.d c.d, .d (.int i)]) st (.d .none) := by
  refine C.needRow.is (k := 7) hm fun m' hm' => ?_
  show SWp _ [some (.d c.d), some (.d (.int i))] st _ _
  unfold b_need_row
  have btw := fun d lo hi Q => (is_of (between_wp (st := st) (m := m') (d := d) (lo := lo) (hi := hi) C.whole C.between (by omega) ⟨rfl, rfl⟩)).wp (Q := Q)
  ktr_call (Is.wp (needCode_is (st := st) C.toCodeP1 (show 6 < m' by omega) ok)) (And.intro (@ix_code4 st c) btw)
  have b : betweenD (.int i) 0 ((c.rows.length : Int) - 1) = true := by simp only [betweenD, decide_eq_true_eq]; omega
  simp [b]
theorem oq_tuple {xs : List PyData} {Q : Vl → Sto → Prop} : OptQ (pTuple [.d (.list xs)] st) Q = Q (.d (.tuple xs)) st := rfl
theorem oq_tupleI {l : List Int} {Q : Vl → Sto → Prop} : OptQ (pTuple [.d (intsL l)] st) Q = Q (.d (intsT l)) st := rfl
theorem oq_tupleP {l : List Pr2} {Q : Vl → Sto → Prop} : OptQ (pTuple [.d (pairsL l)] st) Q = Q (.d (pairsT l)) st := rfl
theorem loopsOf_is (C : CodeP2 P) {m : Nat} (hm : 7 < m) {c : Code} (ok : c.Ok) : Is (callN P m "loops_of" [.d c.d]) st (.d (pairsT c.loops)) := by
  refine C.loopsOf.is (k := 7) hm fun m' hm' => ?_
  show SWp _ [some (.d c.d)] st _ _
  unfold b_loops_of
  have r2 := ok.rows2
  have ag : AgOk c.rows := fun r hr => ⟨(ok.rows3 r hr).strOk, (ok.rows3 r hr).again⟩
  ktr_call (Is.wp (needCode_is (st := st) C.toCodeP1 (show 6 < m' by omega) ok)) (And.intro (@ix_code4 st c) (And.intro (fun Q => (loopsBy_is (st := st) C.toCodeP (show 0 < m' by omega) ag (show c.rows.length ≤ 1000 by omega)).wp (Q := Q)) (@oq_tupleP st)))
theorem around_is2 (C : CodeP2 P) {m : Nat} (hm : 8 < m) {c : Code} (ok : c.Ok) {i : Int} (h1 : 0 ≤ i) (h2 : i < c.rows.length) : Is (callN P m "around" [.d c.d, .d (.int i)]) st (.d (intsT (aroundL c.loops i))) := by
  refine C.around.is (k := 8) hm fun m' hm' => ?_
  show SWp _ [some (.d c.d), some (.d (.int i))] st _ _
  unfold b_around
  have r2 := ok.rows2
  have ag : AgOk c.rows := fun r hr => ⟨(ok.rows3 r hr).strOk, (ok.rows3 r hr).again⟩
  ktr_call (Is.wp (needRow_is (st := st) C (show 7 < m' by omega) ok h1 h2)) (And.intro (@ix_code4 st c) (And.intro (fun Q => (loopsBy_is (st := st) C.toCodeP (show 0 < m' by omega) ag (show c.rows.length ≤ 1000 by omega)).wp (Q := Q)) (And.intro (@oq_tupleI st) (fun row Q => (around_is (st := st) (row := row) C.toCodeP (show 0 < m' by omega) ok.loops.many).wp (Q := Q)))))
end
end Iv
set_option Elab.async false
set_option linter.all false
set_option maxRecDepth 100000
set_option maxHeartbeats 4000000
/-! Wc1: loops and comprehensions whose walks are reckoned by the rules. -/
namespace Iv
open PySem
/-! the rules go on at the head alone -/
theorem wp_congr {α : Type} {m m' : M α} {st st' : Sto} {Q : α → Sto → Prop} (h1 : m = m') (h2 : st = st') : Wp m st Q = Wp m' st' Q := by rw [h1, h2]
theorem sw_congr {s : S} {ρ ρ' : Env} {st st' : Sto} {N : Env → Sto → Prop} {R : Vl → Sto → Prop} (h1 : ρ = ρ') (h2 : st = st') : SWp s ρ st N R = SWp s ρ' st' N R := by rw [h1, h2]
theorem oq_congr {β : Type} {o o' : Option (β × Sto)} {Q : β → Sto → Prop} (h1 : o = o') : OptQ o Q = OptQ o' Q := by rw [h1]
theorem ls_congr {st st' : Sto} {n n' : Nat} {K : List PyData → Prop} (h1 : st = st') (h2 : n = n') : LS st n K = LS st' n' K := by rw [h1, h2]
theorem on_congr {α : Type} {o o' : Option α} {K : α → Prop} (h1 : o = o') : ON o K = ON o' K := by rw [h1]
structure WalksC (C : Sto → Prop) (w : Wk) (xs : List PyData) : Prop where
  n : xs.length ≤ w.n
  nx : ∀ i, i ≤ xs.length → ∀ st, C st → w.nx i st = some xs[i]?
theorem Walks.c {w : Wk} {xs : List PyData} (h : Walks w xs) {C : Sto → Prop} : WalksC C w xs := ⟨h.n, fun i hi st _ => h.nx i hi st⟩
def forW (w : Wk) (asg : Asg) (body : S) : S := forL w.nx asg body (w.n + 1) 0
def lcW (w : Wk) (own : List Nat) (asg : Asg) (tt : Env → M Bool) (te : Env → M Vl) (ρ : Env) : M (List PyData) := lcLoop w.nx (lcBody (wipeE ρ own) asg tt te) (w.n + 1) 0 []
def wkD (xs : List PyData) : Wk := ⟨xs.length, fun i _ => some xs[i]?⟩
def wkR (r n : Nat) : Wk := ⟨n, fun i st => (asQ st (.ref r)).map fun xs => xs[i]?⟩
section
variable {st : Sto} {ρ : Env} {N : Env → Sto → Prop} {R : Vl → Sto → Prop}
theorem sw_forS {it : Env → M Wk} {asg : Asg} {body : S} : SWp (forS it asg body) ρ st N R = Wp (it ρ) st fun w s => SWp (forW w asg body) ρ s N R := by
  unfold forS
  rw [sw_bind]
  rfl
theorem wp_lcG {fin : List PyData → M Vl} {own : List Nat} {it : Env → M Wk} {asg : Asg} {tt : Env → M Bool} {te : Env → M Vl} {Q : Vl → Sto → Prop} : Wp (lcG fin own it asg tt te ρ) st Q = Wp (it ρ) st fun w s => Wp (lcW w own asg tt te ρ) s fun xs s' => Wp (fin xs) s' Q := by
  unfold lcG
  rw [wp_bind]
  congr 1
  funext w s
  rw [wp_bind]
  rfl
theorem wp_itV {f : Env → M Vl} {Q : Wk → Sto → Prop} : Wp (itV f ρ) st Q = Wp (f ρ) st fun v s => Wp (itM v) s Q := by
  unfold itV
  rw [wp_bind]
theorem wp_itR1 {f : Env → M Vl} {Q : Wk → Sto → Prop} : Wp (itR1 f ρ) st Q = Wp (f ρ) st fun v s => Wp (rng1 v) s Q := by
  unfold itR1
  rw [wp_bind]
theorem wp_itR2 {f g : Env → M Vl} {Q : Wk → Sto → Prop} : Wp (itR2 f g ρ) st Q = Wp (f ρ) st fun v s => Wp (g ρ) s fun u s' => Wp (rng2 v u) s' Q := by
  unfold itR2
  rw [wp_bind]
  congr 1
  funext v s
  rw [wp_bind]
theorem it_l {xs : List PyData} {Q : Wk → Sto → Prop} : Wp (itM (.d (.list xs))) st Q = Q (wkD xs) st := rfl
theorem it_t {xs : List PyData} {Q : Wk → Sto → Prop} : Wp (itM (.d (.tuple xs))) st Q = Q (wkD xs) st := rfl
theorem it_pL {l : List Pr2} {Q : Wk → Sto → Prop} : Wp (itM (.d (pairsL l))) st Q = Q (wkD (l.map pairD)) st := rfl
theorem it_pT {l : List Pr2} {Q : Wk → Sto → Prop} : Wp (itM (.d (pairsT l))) st Q = Q (wkD (l.map pairD)) st := rfl
theorem it_iL {l : List Int} {Q : Wk → Sto → Prop} : Wp (itM (.d (intsL l))) st Q = Q (wkD (l.map .int)) st := rfl
theorem it_iT {l : List Int} {Q : Wk → Sto → Prop} : Wp (itM (.d (intsT l))) st Q = Q (wkD (l.map .int)) st := rfl
theorem it_rD {l : List Row} {Q : Wk → Sto → Prop} : Wp (itM (.d (rowsD l))) st Q = Q (wkD (l.map rowD)) st := rfl
theorem it_ref {r : Nat} {Q : Wk → Sto → Prop} : Wp (itM (.ref r)) st Q = LS st r fun xs => Q (wkR r xs.length) st := by
  cases h : st[r]? with
  | none => simp [Wp, itM, itOf, asQ, asT, asL, LS, h]
  | some c => cases c <;> simp [Wp, itM, itOf, asQ, asT, asL, LS, h, wkR]
theorem it_r1 {j : Int} {Q : Wk → Sto → Prop} : Wp (rng1 (.d (.int j))) st Q = ((-4611686018427387904 ≤ j ∧ j < 4611686018427387904) ∧ Q (rngIt 0 j.toNat) st) := by
  unfold rng1
  dsimp only
  by_cases h : -4611686018427387904 ≤ j ∧ j < 4611686018427387904
  · rw [if_pos h, wp_ret]; exact propext ⟨fun q => ⟨h, q⟩, fun q => q.2⟩
  · rw [if_neg h, wp_nope]; exact propext ⟨fun q => q.elim, fun q => h q.1⟩
theorem it_r2 {i j : Int} {Q : Wk → Sto → Prop} : Wp (rng2 (.d (.int i)) (.d (.int j))) st Q = ((-4611686018427387904 ≤ i ∧ i < 4611686018427387904 ∧ -4611686018427387904 ≤ j ∧ j < 4611686018427387904) ∧ Q (rngIt i (j - i).toNat) st) := by
  unfold rng2
  dsimp only
  by_cases h : -4611686018427387904 ≤ i ∧ i < 4611686018427387904 ∧ -4611686018427387904 ≤ j ∧ j < 4611686018427387904
  · rw [if_pos h, wp_ret]; exact propext ⟨fun q => ⟨h, q⟩, fun q => q.2⟩
  · rw [if_neg h, wp_nope]; exact propext ⟨fun q => q.elim, fun q => h q.1⟩
theorem wp_en {a : PyData} {Q : Wk → Sto → Prop} : Wp (enM [.d a]) st Q = ON (asQ st (.d a)) fun xs => Q ⟨xs.length, enNx (.d a)⟩ st := by
  unfold Wp enM
  dsimp only
  cases asQ st (.d a) <;> rfl
theorem en_t {xs : List PyData} {Q : Wk → Sto → Prop} : Wp (enM [.d (.tuple xs)]) st Q = Q ⟨xs.length, enNx (.d (.tuple xs))⟩ st := rfl
theorem en_l {xs : List PyData} {Q : Wk → Sto → Prop} : Wp (enM [.d (.list xs)]) st Q = Q ⟨xs.length, enNx (.d (.list xs))⟩ st := rfl
theorem en_rD {l : List Row} {Q : Wk → Sto → Prop} : Wp (enM [.d (rowsD l)]) st Q = Q ⟨(l.map rowD).length, enNx (.d (.tuple (l.map rowD)))⟩ st := rfl
theorem en_pL {l : List Pr2} {Q : Wk → Sto → Prop} : Wp (enM [.d (pairsL l)]) st Q = Q ⟨(l.map pairD).length, enNx (.d (.list (l.map pairD)))⟩ st := rfl
theorem en_iL {l : List Int} {Q : Wk → Sto → Prop} : Wp (enM [.d (intsL l)]) st Q = Q ⟨(l.map PyData.int).length, enNx (.d (.list (l.map .int)))⟩ st := rfl
theorem en_iT {l : List Int} {Q : Wk → Sto → Prop} : Wp (enM [.d (intsT l)]) st Q = Q ⟨(l.map PyData.int).length, enNx (.d (.tuple (l.map .int)))⟩ st := rfl
end
section
variable {st : Sto}
theorem srt_ref {n : Nat} {Q : Vl → Sto → Prop} : OptQ (pSorted1 (.ref n) st) Q = LS st n fun xs => sortOk xs = true ∧ Q (.d (.list (sortD xs))) st := by
  cases h : st[n]? with
  | none => simp [OptQ, pSorted1, asL, LS, h]
  | some c => cases c with
    | lst xs => by_cases q : sortOk xs = true <;> simp [OptQ, pSorted1, asL, LS, h, q]
    | dct _ => simp [OptQ, pSorted1, asL, LS, h]
    | set _ _ => simp [OptQ, pSorted1, asL, LS, h]
    | dtk _ => simp [OptQ, pSorted1, asL, LS, h]
    | dead => simp [OptQ, pSorted1, asL, LS, h]
theorem srt_pL {l : List Pr2} {Q : Vl → Sto → Prop} : OptQ (pSorted1 (.d (pairsL l)) st) Q = (sortOk (l.map pairD) = true ∧ Q (.d (pairsL (sort2 l))) st) := by
  by_cases q : sortOk (l.map pairD) = true
  · simp [OptQ, pSorted1, asL, pairsL, q, sortD_pairs]
  · simp [OptQ, pSorted1, asL, pairsL, q]
end
theorem at_lit {xs : List PyData} {n : Nat} : L2.atI xs (no_index (OfNat.ofNat n) : Int) = xs[(OfNat.ofNat n : Nat)]? := at_nat (n := OfNat.ofNat n)
theorem EncOk.intsTE : EncOk (fun _ => True) intsT 1 := by
  have := EncOk.int.tuple
  exact this.mono fun _ _ _ _ => trivial
theorem ne_nilT {st : Sto} {l : List Int} {Q : Vl → Sto → Prop} : OptQ (cmpP .NotEq (.d (intsT l)) (.d (.tuple [])) st) Q = Q (.d (.bool (!decide (l = [])))) st := oq_neE EncOk.intsTE (by decide) (b := []) trivial trivial
/-! ### dicts -/
theorem keyOf_keyD' (k : L2.Key) : keyOf (keyD k) = some k := keyOf_keyD k
theorem look_cons (y : PyData × PyData) (ys : DKv) (k : L2.Key) : lookK (y :: ys) k = if keyOf y.1 = some k then some y.2 else lookK ys k := by
  unfold lookK
  by_cases h : keyOf y.1 = some k
  · rw [if_pos h, List.find?_cons_of_pos (by simpa using h)]; rfl
  · rw [if_neg h, List.find?_cons_of_neg (by simpa using h)]
theorem look_map (k k' : L2.Key) (v : PyData) : ∀ kvs : DKv, lookK (kvs.map fun y => if keyOf y.1 = some k then (y.1, v) else y) k' = if k' = k then (if (kvs.any fun y => decide (keyOf y.1 = some k)) = true then some v else none) else lookK kvs k'
  | [] => by unfold lookK; split <;> rfl
  | y :: ys => by
    rw [List.map_cons, look_cons, look_map k k' v ys, look_cons, List.any_cons]
    by_cases h2 : k' = k
    · subst h2
      by_cases h1 : keyOf y.1 = some k'
      · simp [h1]
      · simp only [if_neg h1, if_true, decide_eq_false h1, Bool.false_or]
    · have h3 : ¬ k = k' := fun e => h2 e.symm
      by_cases h1 : keyOf y.1 = some k
      · have h4 : ¬ keyOf y.1 = some k' := by rw [h1]; simpa using h3
        simp only [if_pos h1, if_neg h4, if_neg h2]
      · simp only [if_neg h1, if_neg h2]
theorem look_put (k k' : L2.Key) (v : PyData) : ∀ kvs : DKv, lookK (putD kvs k v) k' = if k' = k then some v else lookK kvs k' := by
  intro kvs
  unfold putD
  by_cases h : (kvs.any fun y => decide (keyOf y.1 = some k)) = true
  · rw [if_pos h, look_map, if_pos h]
  · rw [if_neg h]
    have none_ : ∀ y ∈ kvs, keyOf y.1 ≠ some k := fun y hy e => h (List.any_eq_true.mpr ⟨y, hy, decide_eq_true e⟩)
    unfold lookK
    rw [List.find?_append]
    by_cases h2 : k' = k
    · subst h2
      rw [List.find?_eq_none.mpr (fun y hy => by simpa using none_ y hy)]
      simp [keyOf_keyD]
    · have h3 : ¬ k = k' := fun e => h2 e.symm
      rw [if_neg h2]
      simp [keyOf_keyD, h3]
theorem look_merge (k' : L2.Key) : ∀ (ps : List (L2.Key × PyData)) (kvs : DKv), lookK (mergeD kvs ps) k' = match ps.reverse.find? (fun q => decide (q.1 = k')) with
    | some q => some q.2
    | none => lookK kvs k' := by
  intro ps
  induction ps with
  | nil => intro kvs; rfl
  | cons q ps ih =>
    intro kvs
    show lookK (mergeD (putD kvs q.1 q.2) ps) k' = _
    rw [ih, List.reverse_cons, List.find?_append]
    cases e : ps.reverse.find? (fun q => decide (q.1 = k')) with
    | some x => simp
    | none =>
      rw [look_put]
      by_cases h : k' = q.1
      · subst h; simp
      · have h3 : ¬ q.1 = k' := fun e => h e.symm
        simp [h, h3]
theorem look_some {ps : List (L2.Key × PyData)} {k : L2.Key} {d : PyData} (h : lookK (mergeD [] ps) k = some d) : (k, d) ∈ ps := by
  rw [look_merge] at h
  cases e : ps.reverse.find? (fun q => decide (q.1 = k)) with
  | none => rw [e] at h; simp [lookK] at h
  | some q =>
    rw [e] at h
    have h1 := List.find?_some e
    have h2 := List.mem_of_find?_eq_some e
    simp only [decide_eq_true_eq] at h1
    simp only [Option.some.injEq] at h
    rw [← h1, ← h]
    exact List.mem_reverse.mp h2
theorem look_none {ps : List (L2.Key × PyData)} {k : L2.Key} (h : lookK (mergeD [] ps) k = none) : ∀ q ∈ ps, q.1 ≠ k := by
  rw [look_merge] at h
  cases e : ps.reverse.find? (fun q => decide (q.1 = k)) with
  | none =>
    intro q hq
    have := List.find?_eq_none.mp e q (List.mem_reverse.mpr hq)
    simpa using this
  | some q => rw [e] at h; simp at h
section
variable {st : Sto}
theorem in_dictI {k : Int} {kvs : DKv} {Q : Vl → Sto → Prop} : OptQ (cmpP .In (.d (.int k)) (.d (.dict kvs)) st) Q = Q (.d (.bool (lookK kvs (.inl k)).isSome)) st := by
  show OptQ (pInA2 false (.d (.int k)) (.d (.dict kvs)) st) Q = _
  simp [pInA2, asK, kyOf, keyOf, oq_some]
theorem ix_dictI {k : Int} {kvs : DKv} {Q : Vl → Sto → Prop} : OptQ (pIxA2 (.d (.dict kvs)) (.d (.int k)) st) Q = ON (lookK kvs (.inl k)) fun d => Q (.d d) st := by
  simp only [pIxA2, asK, kyOf, keyOf, Option.bind_some]
  cases lookK kvs (.inl k) <;> rfl
def dicI (l : List Pr2) : PyData := .dict (mergeD [] (l.map fun p => (.inl p.1, .int p.2)))
theorem dict_l {l : List Pr2} {Q : Vl → Sto → Prop} : OptQ (pDict1 (.d (.list (l.map pairD))) st) Q = Q (.d (dicI l)) st := by
  have : pairsD (l.map pairD) = some (l.map fun p => (.inl p.1, .int p.2)) := by
    induction l with
    | nil => rfl
    | cons p l ih => rw [List.map_cons, List.map_cons]; simp [pairsD, ih, pairD, keyOf]
  simp [pDict1, asL, this, oq_some, dicI]
theorem ix_intsL {l : List Int} {d : Int} (h0 : 0 ≤ d) (h1 : d < l.length) : ∃ t ∈ l, ∀ (st : Sto) (Q : Vl → Sto → Prop), OptQ (pIxA2 (.d (intsL l)) (.d (.int d)) st) Q = Q (.d (.int t)) st := by
  obtain ⟨n, rfl⟩ : ∃ n : Nat, d = n := ⟨d.toNat, by omega⟩
  have hn : n < l.length := by omega
  refine ⟨l[n], List.getElem_mem _, fun st Q => ?_⟩
  unfold intsL
  rw [ix_lst, at_nat, List.getElem?_map, List.getElem?_eq_getElem hn]
  rfl
end
theorem eq_nilI {st : Sto} {l : List Int} {Q : Vl → Sto → Prop} : OptQ (cmpP .Eq (.d (.list (l.map .int))) (.d (.list [])) st) Q = Q (.d (.bool (decide (l = [])))) st := oq_eqIs (l := l) (l' := [])
section
variable {st : Sto} {Q : Vl → Sto → Prop}
theorem oq_tupleR {n : Nat} : OptQ (pTuple [.ref n] st) Q = LS st n fun xs => Q (.d (.tuple xs)) st := by
  cases h : st[n]? with
  | none => simp [OptQ, pTuple, l1, pTuple1, asQ, asT, asL, LS, h]
  | some c => cases c <;> simp [OptQ, pTuple, l1, pTuple1, asQ, asT, asL, LS, h]
theorem eq_ref {n : Nat} {d : PyData} (hr : ∃ xs, st[n]? = some (.lst xs)) : OptQ (cmpP .Eq (.ref n) (.d d) st) Q = LS st n fun xs => OptQ (cmpP .Eq (.d (.list xs)) (.d d) st) Q := by
  obtain ⟨xs, h⟩ := hr
  rw [ls_of h]
  show OptQ ((asD st (.ref n)).bind fun x => (asD st (.d d)).bind fun y => if eqOk x y = true then some (.d (.bool (PyData.eqv x y)), st) else none) Q = OptQ ((asD st (.d (.list xs))).bind fun x => (asD st (.d d)).bind fun y => if eqOk x y = true then some (.d (.bool (PyData.eqv x y)), st) else none) Q
  simp only [asD, h]
theorem en_ref {n : Nat} {Q : Wk → Sto → Prop} : Wp (enM [.ref n]) st Q = LS st n fun xs => Q ⟨xs.length, enNx (.ref n)⟩ st := by
  cases h : st[n]? with
  | none => simp [Wp, enM, asQ, asT, asL, LS, h]
  | some c => cases c <;> simp [Wp, enM, asQ, asT, asL, LS, h]
theorem drop_last {α : Type} {xs : List α} {x : α} : (xs ++ [x]).dropLast = xs := List.dropLast_concat
theorem get_last {xs : List PyData} {x : PyData} : (xs ++ [x])[(xs ++ [x]).length - 1]? = some x := by simp
theorem stw_new1 {r : Nat} {p xs : List PyData} {cs : List Cell} {c : Cell} : Back st.length (.ref (st.length + 1)) (Stw st r p (c :: .lst xs :: cs)) Q = Q (.ref st.length) (Stw st r p [.lst xs]) := by
  have e : (Stw st r p (c :: .lst xs :: cs))[st.length + 1]? = some (.lst xs) := by rw [stw_k]; rfl
  have : List.take st.length (Stw st r p (c :: .lst xs :: cs)) ++ [.lst xs] = Stw st r p [.lst xs] := by
    unfold Stw
    rw [List.take_append_of_le_length (by simp), List.take_of_length_le (by simp)]
  have nl : ¬ st.length + 1 < st.length := by omega
  simp [Back, Wp, backM, e, this, nl]
theorem stw_stw {st : Sto} {r : Nat} {p0 p : List PyData} {cs ds : List Cell} (h : r < st.length) : Stw (Stw st r p0 cs) r p ds = Stw st r p (cs ++ ds) := by
  unfold Stw
  rw [List.set_append_left _ _ (by simpa using h), List.set_set, List.append_assoc]
theorem oq_optite {c : Prop} [Decidable c] {v : Vl × Sto} : OptQ (if c then some v else none) Q = (c ∧ Q v.1 v.2) := by
  by_cases h : c
  · rw [if_pos h, oq_some]; simp [h]
  · rw [if_neg h, oq_none]; simp [h]
theorem add_ll {xs ys : List PyData} : OptQ (pAdd2 (.d (.list xs)) (.d (.list ys)) st) Q = (xs.length + ys.length ≤ sizeLine ∧ Q (.d (.list (xs ++ ys))) st) := oq_optite
theorem add_tt {xs ys : List PyData} : OptQ (pAdd2 (.d (.tuple xs)) (.d (.tuple ys)) st) Q = (xs.length + ys.length ≤ sizeLine ∧ Q (.d (.tuple (xs ++ ys))) st) := oq_optite
theorem add_rl {n : Nat} {ys : List PyData} : OptQ (pAdd2 (.ref n) (.d (.list ys)) st) Q = LS st n fun xs => xs.length + ys.length ≤ sizeLine ∧ Q (.d (.list (xs ++ ys))) st := by
  cases h : st[n]? with
  | none => simp [OptQ, pAdd2, asL, LS, h]
  | some c => cases c with
    | lst xs => rw [ls_of h]; simp only [pAdd2, asL, h, Option.bind_some]; exact oq_optite
    | dct _ => simp [OptQ, pAdd2, asL, LS, h]
    | set _ _ => simp [OptQ, pAdd2, asL, LS, h]
    | dtk _ => simp [OptQ, pAdd2, asL, LS, h]
    | dead => simp [OptQ, pAdd2, asL, LS, h]
end
theorem rowOk_mk {kvs : DKv} {w : Str} {ps : List Int} (kinds : List Str) (e : tab_FORMS.lookup w = some (.d (.tuple (kinds.map .str)))) (h1 : ps.length = kinds.length) (h2 : kinds.length ≤ 10)
    (h : ∀ q ∈ ps.zip kinds, ∃ lo hi : Int, lookK kvs (.inr q.2) = some (.tuple [.int lo, .int hi]) ∧ lo ≤ q.1 ∧ q.1 ≤ hi) : RowOk kvs (w, ps) := ⟨kinds, e, h1, by show ps.length ≤ 10; omega, h⟩
section
variable {many : Int} {na n : Nat}
theorem lim_reg : lookK (limD many na n) (.inr "register") = some (.tuple [.int 0, .int (many - 1)]) := by kernel_rfl
theorem lim_worth : lookK (limD many na n) (.inr "worth") = some (.tuple [.int 0, .int 255]) := by kernel_rfl
theorem lim_array : lookK (limD many na n) (.inr "array") = some (.tuple [.int 0, .int ((na : Int) - 1)]) := by kernel_rfl
theorem lim_row : lookK (limD many na n) (.inr "row") = some (.tuple [.int 0, .int ((n : Int) - 1)]) := by kernel_rfl
theorem lim_rounds : lookK (limD many na n) (.inr "rounds") = some (.tuple [.int 1, .int 6]) := by kernel_rfl
theorem row_set {a w : Int} (h : 0 ≤ a ∧ a < many ∧ 0 ≤ w ∧ w ≤ 255) : RowOk (limD many na n) ("set", [a, w]) := by
  refine rowOk_mk ["register", "worth"] (by kernel_rfl) rfl (by decide) fun q hq => ?_
  simp only [List.zip_cons_cons, List.zip_nil_left, List.mem_cons, List.not_mem_nil, or_false] at hq
  rcases hq with rfl | rfl
  · exact ⟨_, _, lim_reg, by omega, by show a ≤ _; omega⟩
  · exact ⟨_, _, lim_worth, by omega, by show w ≤ _; omega⟩
theorem row_copy {a b : Int} (h : 0 ≤ a ∧ a < many ∧ 0 ≤ b ∧ b < many) : RowOk (limD many na n) ("copy", [a, b]) := by
  refine rowOk_mk ["register", "register"] (by kernel_rfl) rfl (by decide) fun q hq => ?_
  simp only [List.zip_cons_cons, List.zip_nil_left, List.mem_cons, List.not_mem_nil, or_false] at hq
  rcases hq with rfl | rfl
  · exact ⟨_, _, lim_reg, by omega, by show a ≤ _; omega⟩
  · exact ⟨_, _, lim_reg, by omega, by show b ≤ _; omega⟩
theorem row_op {w : Str} (hw : w = "+" ∨ w = "-" ∨ w = "*" ∨ w = "<" ∨ w = "=") {a b c : Int} (h : 0 ≤ a ∧ a < many ∧ 0 ≤ b ∧ b < many ∧ 0 ≤ c ∧ c < many) : RowOk (limD many na n) (w, [a, b, c]) := by
  refine rowOk_mk ["register", "register", "register"] (by rcases hw with rfl | rfl | rfl | rfl | rfl <;> kernel_rfl) rfl (by decide) fun q hq => ?_
  simp only [List.zip_cons_cons, List.zip_nil_left, List.mem_cons, List.not_mem_nil, or_false] at hq
  rcases hq with rfl | rfl | rfl
  · exact ⟨_, _, lim_reg, by omega, by show a ≤ _; omega⟩
  · exact ⟨_, _, lim_reg, by omega, by show b ≤ _; omega⟩
  · exact ⟨_, _, lim_reg, by omega, by show c ≤ _; omega⟩
theorem row_get {a b c : Int} (h : 0 ≤ a ∧ a < many ∧ 0 ≤ b ∧ b < na ∧ 0 ≤ c ∧ c < many) : RowOk (limD many na n) ("get", [a, b, c]) := by
  refine rowOk_mk ["register", "array", "register"] (by kernel_rfl) rfl (by decide) fun q hq => ?_
  simp only [List.zip_cons_cons, List.zip_nil_left, List.mem_cons, List.not_mem_nil, or_false] at hq
  rcases hq with rfl | rfl | rfl
  · exact ⟨_, _, lim_reg, by omega, by show a ≤ _; omega⟩
  · exact ⟨_, _, lim_array, by omega, by show b ≤ _; omega⟩
  · exact ⟨_, _, lim_reg, by omega, by show c ≤ _; omega⟩
theorem row_put {a b c : Int} (h : 0 ≤ a ∧ a < na ∧ 0 ≤ b ∧ b < many ∧ 0 ≤ c ∧ c < many) : RowOk (limD many na n) ("put", [a, b, c]) := by
  refine rowOk_mk ["array", "register", "register"] (by kernel_rfl) rfl (by decide) fun q hq => ?_
  simp only [List.zip_cons_cons, List.zip_nil_left, List.mem_cons, List.not_mem_nil, or_false] at hq
  rcases hq with rfl | rfl | rfl
  · exact ⟨_, _, lim_array, by omega, by show a ≤ _; omega⟩
  · exact ⟨_, _, lim_reg, by omega, by show b ≤ _; omega⟩
  · exact ⟨_, _, lim_reg, by omega, by show c ≤ _; omega⟩
theorem row_test {a b : Int} (h : 0 ≤ a ∧ a < many ∧ 0 ≤ b ∧ b < n) : RowOk (limD many na n) ("test", [a, b]) := by
  refine rowOk_mk ["register", "row"] (by kernel_rfl) rfl (by decide) fun q hq => ?_
  simp only [List.zip_cons_cons, List.zip_nil_left, List.mem_cons, List.not_mem_nil, or_false] at hq
  rcases hq with rfl | rfl
  · exact ⟨_, _, lim_reg, by omega, by show a ≤ _; omega⟩
  · exact ⟨_, _, lim_row, by omega, by show b ≤ _; omega⟩
theorem row_go {b : Int} (h : 0 ≤ b ∧ b < n) : RowOk (limD many na n) ("go", [b]) := by
  refine rowOk_mk ["row"] (by kernel_rfl) rfl (by decide) fun q hq => ?_
  simp only [List.zip_cons_cons, List.zip_nil_left, List.mem_cons, List.not_mem_nil, or_false] at hq
  rcases hq with rfl
  exact ⟨_, _, lim_row, by omega, by show b ≤ _; omega⟩
theorem row_again {b : Int} (h : 0 ≤ b ∧ b < n) : RowOk (limD many na n) ("again", [b]) := by
  refine rowOk_mk ["row"] (by kernel_rfl) rfl (by decide) fun q hq => ?_
  simp only [List.zip_cons_cons, List.zip_nil_left, List.mem_cons, List.not_mem_nil, or_false] at hq
  rcases hq with rfl
  exact ⟨_, _, lim_row, by omega, by show b ≤ _; omega⟩
theorem row_count {b : Int} (h : 1 ≤ b ∧ b ≤ 6) : RowOk (limD many na n) ("count", [b]) := by
  refine rowOk_mk ["rounds"] (by kernel_rfl) rfl (by decide) fun q hq => ?_
  simp only [List.zip_cons_cons, List.zip_nil_left, List.mem_cons, List.not_mem_nil, or_false] at hq
  rcases hq with rfl
  exact ⟨_, _, lim_rounds, by omega, by show b ≤ _; omega⟩
theorem row_rest : RowOk (limD many na n) ("rest", []) := rowOk_mk [] (by kernel_rfl) rfl (by decide) fun q hq => by simp at hq
theorem row_end : RowOk (limD many na n) ("end", []) := rowOk_mk [] (by kernel_rfl) rfl (by decide) fun q hq => by simp at hq
end
/-- a row that goes on -/
def PlainR (many : Int) (na : Nat) (r : Row) : Prop := (∀ n, RowOk (limD many na n) r) ∧ r.1 ≠ sCount ∧ r.1 ≠ sAgain ∧ r.1 ≠ "test" ∧ r.1 ≠ "go" ∧ r.1 ≠ sEnd
/-! ### the walks -/
section
variable {τ : Type} {C : Sto → Prop} {enc : τ → PyData} {l : List τ}
theorem wk_d {xs : List PyData} : WalksC C (wkD xs) xs := ⟨Nat.le_refl _, fun _ _ _ _ => rfl⟩
theorem wk_e {xs : List PyData} (e : xs = l.map enc) : WalksC C (wkD xs) (l.map enc) := e ▸ wk_d
theorem wk_r {n : Nat} : WalksC C (rngIt 0 n) ((List.range n).map fun i => .int (i : Nat)) := by
  refine ⟨by simp [rngIt], fun i hi st _ => ?_⟩
  simp only [rngIt, List.getElem?_map, Int.zero_add]
  by_cases h : i < n
  · rw [if_pos h, List.getElem?_range h]; rfl
  · rw [if_neg h, List.getElem?_eq_none (by simpa using h)]; rfl
theorem wk_r' {j : Int} {n : Nat} (e : j.toNat = n) : WalksC C (rngIt 0 j.toNat) ((List.range n).map fun i => .int (i : Nat)) := e ▸ wk_r
theorem wk_r2 {a n : Nat} : WalksC C (rngIt (a : Int) n) ((List.range n).map fun i => .int ((a + i : Nat))) := by
  refine ⟨by simp [rngIt], fun i hi st _ => ?_⟩
  simp only [rngIt, List.getElem?_map]
  by_cases h : i < n
  · rw [if_pos h, List.getElem?_range h]; simp
  · rw [if_neg h, List.getElem?_eq_none (by simpa using h)]; rfl
theorem wk_rr {i j : Int} {a n : Nat} (e : i = a) (e2 : j.toNat = n) : WalksC C (rngIt i j.toNat) ((List.range n).map fun i => .int ((a + i : Nat))) := by
  subst e e2
  exact wk_r2
theorem wk_ref {r n : Nat} {xs : List PyData} (hn : n = xs.length) (h : ∀ st, C st → st[r]? = some (.lst xs)) : WalksC C (wkR r n) xs := by
  refine ⟨by rw [hn]; exact Nat.le_refl _, fun i _ st hs => ?_⟩
  simp [wkR, asQ, asT, asL, h st hs]
theorem wk_en {a : Vl} {n : Nat} {xs : List PyData} (hn : n = xs.length) (h : ∀ st, asQ st a = some xs) : WalksC C ⟨n, enNx a⟩ (enD xs) := by
  subst hn
  exact (en_walks h).c
theorem wk_enC {a : Vl} {n : Nat} (hn : n = l.length) (h : ∀ st, C st → asQ st a = some (l.map enc)) : WalksC C ⟨n, enNx a⟩ (l.zipIdx.map fun q => .tuple [.int (q.2 : Nat), enc q.1]) := by
  rw [← enD_map]
  refine ⟨by rw [enD_len, List.length_map, hn]; exact Nat.le_refl _, fun i hi s hs => ?_⟩
  rw [enD_len] at hi
  simp only [enNx, h s hs, Option.bind_some, enD_get]
  cases e : (l.map enc)[i]? with
  | none =>
    have : i = (l.map enc).length := by have := List.getElem?_eq_none_iff.mp e; omega
    simp [this]
  | some d => rfl
theorem wk_enE {a : Vl} {n : Nat} (hn : n = l.length) (h : ∀ st, asQ st a = some (l.map enc)) : WalksC C ⟨n, enNx a⟩ (l.zipIdx.map fun q => .tuple [.int (q.2 : Nat), enc q.1]) := by
  rw [← enD_map]
  exact wk_en (by rw [List.length_map]; exact hn) h
end
section
variable {st : Sto} {ρ : Env} {N : Env → Sto → Prop} {R : Vl → Sto → Prop} {τ : Type} {C : Sto → Prop}
theorem forL_c {w w' : Wk} {xs : List PyData} (hw : WalksC C w xs) {asg : Asg} {body : S} : True := trivial
theorem sw_forLC {w : Wk} {xs : List PyData} {asg : Asg} {body : S} (hw : WalksC C w xs) (I : Nat → Env → Sto → Prop) (hc : ∀ i ρ' st', I i ρ' st' → C st') (step : ∀ i d, xs[i]? = some d → ∀ ρ' st', I i ρ' st' → ∃ ρ2, asg d ρ' = some ρ2 ∧ SWp body ρ2 st' (I (i + 1)) R)
    (done : ∀ ρ' st', I xs.length ρ' st' → N ρ' st') : ∀ (m i : Nat), i ≤ xs.length → w.n + 1 ≤ m + i → ∀ {ρ : Env} {st : Sto}, I i ρ st → SWp (forL w.nx asg body m i) ρ st N R
  | 0, i, hi, hm, ρ, st, h => by have := hw.n; omega
  | m + 1, i, hi, hm, ρ, st, h => by
    unfold SWp
    simp only [forL, hw.nx i hi st (hc i ρ st h)]
    cases e : xs[i]? with
    | none =>
      have : i = xs.length := by have := List.getElem?_eq_none_iff.mp e; omega
      subst this
      exact done ρ st h
    | some d =>
      have hlt := (List.getElem?_eq_some_iff.mp e).1
      obtain ⟨ρ2, e2, b⟩ := step i d e ρ st h
      simp only [e2]
      unfold SWp at b
      cases e3 : body ρ2 st with
      | nx ρ3 st3 =>
        rw [e3] at b
        exact sw_forLC hw I hc step done m (i + 1) (by omega) (by omega) b
      | rt v st3 => rw [e3] at b; exact b
      | bk ρ3 st3 => rw [e3] at b; exact b.elim
      | ct ρ3 st3 => rw [e3] at b; exact b.elim
      | ex x ρ3 st3 => rw [e3] at b; exact b.elim
      | bad => rw [e3] at b; exact b.elim
/-- for: what holds behind so many -/
theorem sw_forWT {w : Wk} {enc : τ → PyData} {l : List τ} {asg : Asg} {body : S} (hw : WalksC C w (l.map enc)) (I : List τ → Env → Sto → Prop) (hc : ∀ pre ρ' st', I pre ρ' st' → C st') (h0 : I [] ρ st)
    (step : ∀ pre t post, l = pre ++ t :: post → ∀ ρ' st', I pre ρ' st' → ∃ ρ2, asg (enc t) ρ' = some ρ2 ∧ SWp body ρ2 st' (I (pre ++ [t])) R)
    (done : ∀ ρ' st', I l ρ' st' → N ρ' st') : SWp (forW w asg body) ρ st N R := by
  unfold forW
  refine sw_forLC hw (fun i ρ' st' => I (l.take i) ρ' st') (fun i ρ' st' h => hc _ _ _ h) (fun i d e ρ' st' h => ?_) (fun ρ' st' h => ?_) _ 0 (Nat.zero_le _) (by omega) (by simpa using h0)
  · rw [List.getElem?_map] at e
    obtain ⟨t, e1, rfl⟩ := Option.map_eq_some_iff.mp e
    have hlt := (List.getElem?_eq_some_iff.mp e1).1
    have e3 : l[i] = t := (List.getElem?_eq_some_iff.mp e1).2
    have tk : l.take (i + 1) = l.take i ++ [t] := by rw [List.take_add_one, e1]; rfl
    have sp : l = l.take i ++ t :: l.drop (i + 1) := by
      conv => lhs; rw [← List.take_append_drop i l, List.drop_eq_getElem_cons hlt, e3]
    rw [tk]
    exact step _ t _ sp ρ' st' h
  · rw [List.length_map, List.take_length] at h
    exact done ρ' st' h
/-- .. by how many turns were done -/
theorem sw_forN {w : Wk} {enc : Nat → PyData} {n : Nat} {asg : Asg} {body : S} (hw : WalksC C w ((List.range n).map enc)) (I : Nat → Env → Sto → Prop) (hc : ∀ i ρ' st', I i ρ' st' → C st') (h0 : I 0 ρ st)
    (step : ∀ i, i < n → ∀ ρ' st', I i ρ' st' → ∃ ρ2, asg (enc i) ρ' = some ρ2 ∧ SWp body ρ2 st' (I (i + 1)) R)
    (done : ∀ ρ' st', I n ρ' st' → N ρ' st') : SWp (forW w asg body) ρ st N R := by
  unfold forW
  refine sw_forLC hw I hc (fun i d e ρ' st' h => ?_) (fun ρ' st' h => ?_) _ 0 (Nat.zero_le _) (by omega) h0
  · rw [List.getElem?_map] at e
    obtain ⟨t, e1, rfl⟩ := Option.map_eq_some_iff.mp e
    have hlt := (List.getElem?_eq_some_iff.mp e1).1
    rw [List.length_range] at hlt
    rw [List.getElem?_range hlt] at e1
    cases e1
    exact step i hlt ρ' st' h
  · rw [List.length_map, List.length_range] at h
    exact done ρ' st' h
/-- .. by the place -/
theorem sw_forE {w : Wk} {enc : τ → PyData} {l : List τ} {asg : Asg} {body : S} (hw : WalksC C w (l.zipIdx.map fun q => .tuple [.int (q.2 : Nat), enc q.1])) (I : Nat → Env → Sto → Prop) (hc : ∀ i ρ' st', I i ρ' st' → C st') (h0 : I 0 ρ st)
    (step : ∀ i t, l[i]? = some t → ∀ ρ' st', I i ρ' st' → ∃ ρ2, asg (.tuple [.int (i : Nat), enc t]) ρ' = some ρ2 ∧ SWp body ρ2 st' (I (i + 1)) R)
    (done : ∀ ρ' st', I l.length ρ' st' → N ρ' st') : SWp (forW w asg body) ρ st N R := by
  unfold forW
  refine sw_forLC hw I hc (fun i d e ρ' st' h => ?_) (fun ρ' st' h => ?_) _ 0 (Nat.zero_le _) (by omega) h0
  · rw [List.getElem?_map, List.getElem?_zipIdx] at e
    cases e2 : l[i]? with
    | none => rw [e2] at e; cases e
    | some t =>
      rw [e2] at e
      simp only [Option.map_some, Option.some.injEq, Nat.zero_add] at e
      subst e
      exact step i t e2 ρ' st' h
  · rw [List.length_map, List.length_zipIdx] at h
    exact done ρ' st' h
theorem sw_forI {w : Wk} {enc : τ → PyData} {l : List τ} {asg : Asg} {body : S} (hw : WalksC C w (l.map enc)) (I : Nat → Env → Sto → Prop) (hc : ∀ i ρ' st', I i ρ' st' → C st') (h0 : I 0 ρ st)
    (step : ∀ i t, l[i]? = some t → ∀ ρ' st', I i ρ' st' → ∃ ρ2, asg (enc t) ρ' = some ρ2 ∧ SWp body ρ2 st' (I (i + 1)) R)
    (done : ∀ ρ' st', I l.length ρ' st' → N ρ' st') : SWp (forW w asg body) ρ st N R := by
  unfold forW
  refine sw_forLC hw I hc (fun i d e ρ' st' h => ?_) (fun ρ' st' h => ?_) _ 0 (Nat.zero_le _) (by omega) h0
  · rw [List.getElem?_map] at e
    obtain ⟨t, e1, rfl⟩ := Option.map_eq_some_iff.mp e
    exact step i t e1 ρ' st' h
  · rw [List.length_map] at h
    exact done ρ' st' h
theorem lcLC {w : Wk} {xs : List PyData} {asg : Asg} {tt : Env → M Bool} {te : Env → M Vl} {ρw : Env} {Q : List PyData → Sto → Prop} (hw : WalksC C w xs) (I : Nat → List PyData → Sto → Prop) (hc : ∀ i acc st', I i acc st' → C st')
    (step : ∀ i d, xs[i]? = some d → ∀ acc st', I i acc st' → ∃ ρ2, asg d ρw = some ρ2 ∧ Wp (tt ρ2) st' fun b s1 => if b = true then Wp (te ρ2) s1 fun v s2 => Wp (frzM v) s2 fun x s3 => acc.length < sizeLine ∧ I (i + 1) (acc ++ [x]) s3 else I (i + 1) acc s1)
    (done : ∀ acc st', I xs.length acc st' → Q acc st') : ∀ (m i : Nat), i ≤ xs.length → w.n + 1 ≤ m + i → ∀ {acc : List PyData} {st : Sto}, I i acc st → Wp (lcLoop w.nx (lcBody ρw asg tt te) m i acc) st Q
  | 0, i, hi, hm, acc, st, h => by have := hw.n; omega
  | m + 1, i, hi, hm, acc, st, h => by
    have hn := hw.nx i hi st (hc i acc st h)
    cases e : xs[i]? with
    | none =>
      have : i = xs.length := by have := List.getElem?_eq_none_iff.mp e; omega
      subst this
      unfold Wp
      simp only [lcLoop, hn, e]
      exact done acc st h
    | some d =>
      have hlt := (List.getElem?_eq_some_iff.mp e).1
      obtain ⟨ρ2, e2, b⟩ := step i d e acc st h
      have e3 : Wp (lcLoop w.nx (lcBody ρw asg tt te) (m + 1) i acc) st Q = Wp (M.bind (lcBody ρw asg tt te d) fun o => match o with
          | none => lcLoop w.nx (lcBody ρw asg tt te) m (i + 1) acc
          | some y => if acc.length < sizeLine then lcLoop w.nx (lcBody ρw asg tt te) m (i + 1) (acc ++ [y]) else nope) st Q := by
        unfold Wp
        simp only [lcLoop, hn, e]
        try rfl
      rw [e3, wp_bind]
      simp only [lcBody, e2, wp_bind, wp_noEx, wp_ifb, wp_ret]
      refine b.mono fun k s1 h1 => ?_
      cases k with
      | false => exact lcLC hw I hc step done m (i + 1) (by omega) (by omega) h1
      | true =>
        refine h1.mono fun v s2 h2 => h2.mono fun x s3 ⟨h3, h4⟩ => ?_
        rw [if_pos h3]
        exact lcLC hw I hc step done m (i + 1) (by omega) (by omega) h4
/-- a comprehension that draws: what holds behind so many -/
theorem wp_lcI {w : Wk} {own : List Nat} {enc : τ → PyData} {l : List τ} {asg : Asg} {tt : Env → M Bool} {te : Env → M Vl} {Q : List PyData → Sto → Prop} (hw : WalksC C w (l.map enc)) (I : List τ → List PyData → Sto → Prop) (hc : ∀ pre acc st', I pre acc st' → C st') (h0 : I [] [] st)
    (step : ∀ pre t post, l = pre ++ t :: post → ∀ acc st', I pre acc st' → ∃ ρ2, asg (enc t) (wipeE ρ own) = some ρ2 ∧ Wp (tt ρ2) st' fun b s1 => if b = true then Wp (te ρ2) s1 fun v s2 => Wp (frzM v) s2 fun x s3 => acc.length < sizeLine ∧ I (pre ++ [t]) (acc ++ [x]) s3 else I (pre ++ [t]) acc s1)
    (done : ∀ acc st', I l acc st' → Q acc st') : Wp (lcW w own asg tt te ρ) st Q := by
  unfold lcW
  refine lcLC hw (fun i acc st' => I (l.take i) acc st') (fun i acc st' h => hc _ _ _ h) (fun i d e acc st' h => ?_) (fun acc st' h => ?_) _ 0 (Nat.zero_le _) (by omega) (by simpa using h0)
  · rw [List.getElem?_map] at e
    obtain ⟨t, e1, rfl⟩ := Option.map_eq_some_iff.mp e
    have hlt := (List.getElem?_eq_some_iff.mp e1).1
    have e3 : l[i] = t := (List.getElem?_eq_some_iff.mp e1).2
    have tk : l.take (i + 1) = l.take i ++ [t] := by rw [List.take_add_one, e1]; rfl
    have sp : l = l.take i ++ t :: l.drop (i + 1) := by
      conv => lhs; rw [← List.take_append_drop i l, List.drop_eq_getElem_cons hlt, e3]
    rw [tk]
    exact step _ t _ sp acc st' h
  · rw [List.length_map, List.take_length] at h
    exact done acc st' h
/-- .. that changes nothing: the test tells p, the element g -/
theorem wp_lcP' {w : Wk} {own : List Nat} {enc : τ → PyData} {l : List τ} {asg : Asg} {tt : Env → M Bool} {te : Env → M Vl} {Q : List PyData → Sto → Prop} (hw : WalksC (fun s => s = st) w (l.map enc)) (p : τ → Bool) (g : τ → PyData) (hz : l.length ≤ 100000)
    (step : ∀ t ∈ l, ∃ ρ2, asg (enc t) (wipeE ρ own) = some ρ2 ∧ Wp (tt ρ2) st fun b s1 => s1 = st ∧ b = p t ∧ (p t = true → Wp (te ρ2) st fun v s2 => s2 = st ∧ v = .d (g t)))
    (done : Q ((l.filter p).map g) st) : Wp (lcW w own asg tt te ρ) st Q := by
  refine wp_lcI hw (fun pre acc st' => st' = st ∧ acc = (pre.filter p).map g ∧ pre.length ≤ l.length) (fun _ _ _ h => h.1) ⟨rfl, by simp, by simp⟩ (fun pre t post e acc st' h => ?_) fun acc st' h => ?_
  · obtain ⟨rfl, rfl, hl⟩ := h
    obtain ⟨ρ2, e2, b⟩ := step t (by rw [e]; simp)
    have hl2 : pre.length + 1 ≤ l.length := by rw [e]; simp
    refine ⟨ρ2, e2, b.mono fun k s1 ⟨h1, h2, h3⟩ => ?_⟩
    subst h1 h2
    by_cases hp : p t = true
    · rw [if_pos hp]
      refine (h3 hp).mono fun v s2 ⟨h4, h5⟩ => ?_
      subst h4 h5
      rw [wp_frzD]
      refine ⟨?_, rfl, by rw [List.filter_append, List.map_append]; simp [hp], by simpa using hl2⟩
      rw [List.length_map]
      refine Nat.lt_of_le_of_lt (List.length_filter_le _ _) ?_
      rw [sizeLine_eq]
      omega
    · rw [if_neg hp]
      refine ⟨rfl, by rw [List.filter_append, List.map_append]; simp [hp], by simpa using hl2⟩
  · obtain ⟨rfl, rfl, _⟩ := h
    exact done
/-- .. without a test -/
theorem wp_lcY' {w : Wk} {own : List Nat} {enc : τ → PyData} {l : List τ} {asg : Asg} {te : Env → M Vl} {Q : List PyData → Sto → Prop} (hw : WalksC (fun s => s = st) w (l.map enc)) (g : τ → PyData) (hz : l.length ≤ 100000)
    (step : ∀ t ∈ l, ∃ ρ2, asg (enc t) (wipeE ρ own) = some ρ2 ∧ Wp (te ρ2) st fun v s2 => s2 = st ∧ v = .d (g t))
    (done : Q (l.map g) st) : Wp (lcW w own asg yesM te ρ) st Q := by
  refine wp_lcP' hw (fun _ => true) g hz (fun t ht => ?_) ?_
  · obtain ⟨ρ2, h1, h2⟩ := step t ht
    exact ⟨ρ2, h1, rfl, rfl, fun _ => h2⟩
  · rw [List.filter_eq_self.mpr (fun _ _ => rfl)]
    exact done
end
/-! ### defs that draw -/
section
variable {P : Pg} {st : Sto} {cs : List Cell} {p : List PyData} {r : Nat}
theorem HasB.pot {x : Str} {n k m : Nat} {b : (Str → List Vl → M Vl) → S} (h : HasB P x n b) {as : List Vl} {Q : Vl → Sto → Prop} (hm : k < m) (hr : st[r]? = some (.lst p))
    (g : ∀ m', k ≤ m' → r < st.length → SWp (b (callN P m')) (env0 n as) (Stw st r p []) (fun _ st' => Back st.length (.d .none) st' Q) (fun v st' => Back st.length v st' Q)) : Wp (callN P m x as) st Q := by
  have hl := (List.getElem?_eq_some_iff.mp hr).1
  refine h.wp hm fun m' hm' => ?_
  have := g m' hm' hl
  rwa [← stw_of hr] at this
theorem take_w (C : CodeP P) {m B : Nat} {n : Int} {Q : Vl → Sto → Prop} (hm : 0 < m) (hr : r < st.length) (hp : Pot B p) (hb : B ≤ 1000000000000) (h0 : 0 < n) (h2 : n ≤ 10000000000000000000000000000000000000000)
    (h : ∀ d p', 0 ≤ d → d < n → Pot (B + 1) p' → Q (.d (.int d)) (Stw st r p' cs)) : Wp (callN P m "_law_take" [.ref r, .d (.int n)]) (Stw st r p cs) Q := by
  refine take_wp C.take hm (stw_r hr) hp (Nat.le_trans hb (by decide)) h0 (Int.lt_of_le_of_lt h2 (by decide)) fun d p' a1 a2 a3 => ?_
  rw [stw_set hr]
  exact h d p' a1 a2 a3
end
end Iv
set_option Elab.async false
set_option linter.all false
set_option maxRecDepth 100000
set_option maxHeartbeats 2000000
/-! Wt1: worths, names, terms: is_.. and the law's own look. -/
namespace Iv
open PySem
local macro_rules   | `(tactic| ktr_call $a:term $b:term) => `(tactic| simp (config := { maxSteps := 400000, failIfUnchanged := false, implicitDefEqProofs := false }) only [↓sw_forS, ↓wp_lcG, ↓wp_itV, ↓wp_itR1, ↓wp_itR2, ↓it_l, ↓it_t, ↓it_pL, ↓it_pT, ↓it_iL, ↓it_iT, ↓it_rD, ↓it_ref, ↓it_r1, ↓it_r2, ↓en_t, ↓en_l, ↓en_rD, ↓en_pL, ↓en_iL, ↓en_iT, ↓stw_nil, ↓stw_stw, List.append_nil, ↓sw_bad, ↓sw_seq, ↓sw_next, ↓sw_set, ↓sw_ret, ↓sw_retN, ↓sw_drop, ↓sw_if, ↓sw_sub, ↓sw_asg, ↓sw_par, ↓wp_bind, ↓wp_ret, ↓wp_cM, ↓wp_nil, ↓wp_cons, ↓wp_v0, ↓wp_vs, ↓wp_ty, ↓wp_gl, ↓wp_bin, ↓wp_un, ↓wp_callP, ↓wp_callF, ↓wp_g1, ↓wp_g2, ↓wp_g3, ↓wp_g4,       ↓wp_bM, ↓wp_asB, ↓wp_notM, ↓wp_orM, ↓wp_andM, ↓wp_tst, ↓wp_trub, ↓tru_int, ↓tru_none, ↓tru_list, ↓tru_tuple, ↓wp_andV, ↓wp_orV, ↓wp_notV, ↓wp_ifV, ↓wp_chain, ↓wp_frzD, ↓wp_tupM, ↓oq_tuple0, ↓wp_lstM, ↓wp_lstC, ↓frzs_nil, ↓frzs_cons, ↓frzs_ref, ↓wp_retL', ↓wp_retT', ↓wp_newC', ↓wp_meth1, ↓wp_meth2, ↓wp_isL, ↓oq_append, ↓oq_pop, ↓pl_ref, ↓ix_ref', ↓ex_lst, ex_lst, List.getElem?_cons_zero, List.getElem?_cons_succ, ↓ls_r, ↓ls_0, ↓ls_1, ↓ls_2, ↓stw_r, ↓stw_k, ↓stw_k0, ↓stw_set, ↓stw_setk, ↓stw_setk0, ↓stw_app, ↓stw_len, ↓stw_back, ↓stw_new,       ↓oq_l1, ↓oq_l2, ↓oq_add, ↓oq_sub, ↓oq_mul, ↓oq_neg, ↓oq_max, ↓oq_min, ↓oq_mod, ↓oq_fdiv, ↓oq_abs, ↓oq_intB, ↓oq_le, ↓oq_lt, ↓oq_ge, ↓oq_gt, ↓oq_eqI, ↓oq_neI, ↓oq_eqS', ↓ty_intsL, ↓ty_intsT, ↓ty_pairsT, ↓ty_pairsL, ↓ty_rowsD, ↓ty_rowD, ↓ty_pairD, ↓pl_pairsT, ↓pl_intsL, ↓pl_intsT, ↓pl_pairsL, ↓pl_rowsD, ↓oq_eqIs, ↓oq_neIs, ↓oq_inIs, ↓oq_ninIs, ↓pl_list, ↓pl_tuple, ↓oq_isi, ↓ix_tup, ↓ix_lst, ↓at_0, ↓at_1, ↓at_nat, ↓at_m1, ↓at_lit, ↓eq_ref, ↓en_ref, ↓drop_last, ↓get_last, ↓stw_new1, ↓oq_tupleR, ↓add_ll, ↓add_tt, ↓add_rl, ↓ne_nilT, ↓eq_nilI, ↓in_dictI, ↓ix_dictI, ↓on_some, ↓on_none, ↓on_map, ↓asgQ_some, ↓asgQ_none, ↓aName, ↓aTup_tup, ↓aTup_lst, ↓aCons_cons, ↓aNil_nil, ↓back_take, ↓back_set, ↓ty_int, ↓ty_bool, ↓ty_str, ↓ty_list, ↓ty_tuple, ↓isi_self, ↓isi_ib,       ↓List.set_cons_succ, ↓List.set_cons_zero, List.set_cons_succ, List.set_cons_zero, wp_v0, wp_vs, wipe_nil, wipe_cons, implies_true, forall_const, ↓wp_slM, ↓wp_noO, ↓wp_someO, ↓wp_asI, ↓sl_list, ↓sl_tuple, ↓Option.bind_some, ↓$a, ↓$b, decide_eq_true_eq, Bool.not_eq_true', decide_eq_false_iff_not, ↓reduceIte, true_and, and_true, if_true, if_false, List.length_cons, List.length_nil, List.length_map, ↓srt_ref, ↓srt_pL, Nat.add_zero, Nat.zero_add, List.nil_append, List.cons_append, List.zip_cons_cons, List.zip_nil_left, List.zip_nil_right, List.foldl_cons, List.foldl_nil, ne_eq, not_true_eq_false, not_false_eq_true, reduceCtorEq, Bool.true_eq_false, Bool.false_eq_true, Bool.not_true, Bool.not_false, Bool.not_not, Nat.reduceAdd, sizeLine_eq, Nat.reduceLeDiff, cast_lit, Int.reduceEq, Int.reduceLT, Int.reduceLE, Int.reduceNeg])
local macro_rules   | `(tactic| walk_at "dec") => `(tactic| (repeat' split) <;> first | exact (decide_eq_true (by omega)).symm | exact (decide_eq_false (by omega)).symm | exact decide_eq_decide.mpr (by omega) | exact decide_eq_true (by omega) | exact decide_eq_false (by omega)) 
def t_fi_is_whole : FI := ⟨1, [("least", some (.int 0)), ("most", none)], [["most"]]⟩
def t_OPS : List (Str × DV) := [("+", .fn "plus"), ("-", .fn "minus"), ("*", .fn "times"), ("<", .fn "is_less"), ("=", .fn "are_equal")]
def b_t_is_whole (c : Str → List Vl → M Vl) : S := (seqS (retS (andV (callP pIsi (consM (varM 0) (consM (tyM .int) nilM))) (andV (notV (callP pIsi (consM (varM 0) (consM (tyM .bl) nilM)))) (chain (cmpP .LtE) (cmpP .LtE) (varM 1) (varM 0) (varM 2)))))
  nextS)
def b_t_is_worth (c : Str → List Vl → M Vl) : S := (seqS (retS (callK t_fi_is_whole ["most"] (c "is_whole") (consM (varM 0) nilM) (consM (bin pSub2 (kI 256) (kI 1)) nilM)))
  nextS)
def b_t_is_name (c : Str → List Vl → M Vl) : S := (seqS (ifS (orM (notM (tst (callP pIsi (consM (varM 0) (consM (tyM .str) nilM))))) (orM (bM (bin (cmpP .Eq) (varM 0) (cM (.str "at")))) (notM (bM (chain (cmpP .LtE) (cmpP .LtE) (kI 1) (callP (l1 pLenA1) (consM (varM 0) nilM)) (kI 6)))))) (seqS (retS (cM (.bool false)))
  nextS) nextS)
  (seqS (retS (callP pAll (consM (lcG (fun xs => ret (.d (.list xs))) [1] (itV (varM 0)) (aName 1) yesM (bin (cmpP .In) (varM 1) (cM (.str "abcdefghijklmnopqrstuvwxyz")))) nilM)))
  nextS))
def b_t_is_op (c : Str → List Vl → M Vl) : S := (seqS (retS (andV (callP pIsi (consM (varM 0) (consM (tyM .str) nilM))) (bin (pInD2 false "OPS" t_OPS) (varM 0) (glM "OPS"))))
  nextS)
def b_t_is_term_within (c : Str → List Vl → M Vl) : S := (seqS (ifS (orM (tst (callF 1 (c "is_worth") (consM (varM 0) nilM))) (tst (callF 1 (c "is_name") (consM (varM 0) nilM)))) (seqS (retS (cM (.bool true)))
  nextS) nextS)
  (seqS (ifS (orM (bM (bin (cmpP .Eq) (varM 1) (kI 0))) (orM (notM (tst (callP pIsi (consM (varM 0) (consM (tyM .tup) nilM))))) (orM (bM (bin (cmpP .NotEq) (callP (l1 pLenA1) (consM (varM 0) nilM)) (kI 3))) (notM (tst (callP pIsi (consM (bin pIxA2 (varM 0) (kI 0)) (consM (tyM .str) nilM)))))))) (seqS (retS (cM (.bool false)))
  nextS) nextS)
  (seqS (asgS (aTup 3 (aCons (aName 2) (aCons (aName 3) (aCons (aName 4) aNil)))) (varM 0))
  (seqS (ifS (bM (bin (cmpP .Eq) (varM 2) (cM (.str "at")))) (seqS (retS (andV (callF 1 (c "is_name") (consM (varM 3) nilM)) (callF 2 (c "is_term_within") (consM (varM 4) (consM (bin pSub2 (varM 1) (kI 1)) nilM)))))
  nextS) nextS)
  (seqS (retS (andV (callF 1 (c "is_op") (consM (varM 2) nilM)) (andV (callF 2 (c "is_term_within") (consM (varM 3) (consM (bin pSub2 (varM 1) (kI 1)) nilM))) (callF 2 (c "is_term_within") (consM (varM 4) (consM (bin pSub2 (varM 1) (kI 1)) nilM))))))
  nextS)))))
def b_t_is_term (c : Str → List Vl → M Vl) : S := (seqS (retS (callF 2 (c "is_term_within") (consM (varM 0) (consM (kI 4) nilM))))
  nextS)
def b_t__law_is_worth (c : Str → List Vl → M Vl) : S := (seqS (retS (andV (callP pIsi (consM (varM 0) (consM (tyM .int) nilM))) (andV (notV (callP pIsi (consM (varM 0) (consM (tyM .bl) nilM)))) (chain (cmpP .LtE) (cmpP .Lt) (kI 0) (varM 0) (kI 256)))))
  nextS)
def b_t__law_is_name (c : Str → List Vl → M Vl) : S := (seqS (ifS (orM (notM (tst (callP pIsi (consM (varM 0) (consM (tyM .str) nilM))))) (orM (bM (bin (cmpP .Eq) (varM 0) (cM (.str "at")))) (orM (bM (bin (cmpP .Gt) (callP (l1 pLenA1) (consM (varM 0) nilM)) (kI 6))) (bM (bin (cmpP .Eq) (varM 0) (cM (.str ""))))))) (seqS (retS (cM (.bool false)))
  nextS) nextS)
  (seqS (retS (bin (cmpP .Eq) (lcG (fun xs => ret (.d (.list xs))) [1] (itV (varM 0)) (aName 1) (bM (bin (cmpP .NotIn) (varM 1) (cM (.str "abcdefghijklmnopqrstuvwxyz")))) (varM 1)) (lstM nilM)))
  nextS))
def b_t__law_depth (c : Str → List Vl → M Vl) : S := (seqS (ifS (orM (tst (callF 1 (c "_law_is_worth") (consM (varM 0) nilM))) (tst (callF 1 (c "_law_is_name") (consM (varM 0) nilM)))) (seqS (retS (kI 0))
  nextS) nextS)
  (seqS (ifS (orM (notM (tst (callP pIsi (consM (varM 0) (consM (tyM .tup) nilM))))) (orM (bM (bin (cmpP .NotEq) (callP (l1 pLenA1) (consM (varM 0) nilM)) (kI 3))) (notM (tst (callP pIsi (consM (bin pIxA2 (varM 0) (kI 0)) (consM (tyM .str) nilM))))))) (seqS (retS (kI 9))
  nextS) nextS)
  (seqS (ifS (bM (bin (cmpP .Eq) (bin pIxA2 (varM 0) (kI 0)) (cM (.str "at")))) (seqS (retS (ifV (tst (callF 1 (c "_law_is_name") (consM (bin pIxA2 (varM 0) (kI 1)) nilM))) (bin pAdd2 (kI 1) (callF 1 (c "_law_depth") (consM (bin pIxA2 (varM 0) (kI 2)) nilM))) (kI 9)))
  nextS) nextS)
  (seqS (ifS (bM (bin (cmpP .NotIn) (bin pIxA2 (varM 0) (kI 0)) (lstM (consM (cM (.str "+")) (consM (cM (.str "-")) (consM (cM (.str "*")) (consM (cM (.str "<")) (consM (cM (.str "=")) nilM)))))))) (seqS (retS (kI 9))
  nextS) nextS)
  (seqS (retS (bin pAdd2 (kI 1) (callP pMax (consM (callF 1 (c "_law_depth") (consM (bin pIxA2 (varM 0) (kI 1)) nilM)) (consM (callF 1 (c "_law_depth") (consM (bin pIxA2 (varM 0) (kI 2)) nilM)) nilM)))))
  nextS)))))
def b_t__law_told (c : Str → List Vl → M Vl) : S := (seqS (setS 1 (lstM (consM (bin (cmpP .Lt) (callF 1 (c "_law_depth") (consM (varM 0) nilM)) (kI 5)) (consM (callF 1 (c "_law_is_name") (consM (varM 0) nilM)) (consM (callF 1 (c "_law_is_worth") (consM (varM 0) nilM)) nilM)))))
  (seqS (retS (bin (cmpP .Eq) (callP pRepr (consM (lstM (consM (callF 1 (c "is_term") (consM (varM 0) nilM)) (consM (callF 1 (c "is_name") (consM (varM 0) nilM)) (consM (callF 1 (c "is_worth") (consM (varM 0) nilM)) nilM)))) nilM)) (callP pRepr (consM (varM 1) nilM))))
  nextS))
structure TermP (P : Pg) : Prop where
  whole : HasB P "is_whole" 3 b_t_is_whole
  worth : HasB P "is_worth" 1 b_t_is_worth
  nam : HasB P "is_name" 2 b_t_is_name
  op : HasB P "is_op" 1 b_t_is_op
  within : HasB P "is_term_within" 5 b_t_is_term_within
  term : HasB P "is_term" 1 b_t_is_term
  lworth : HasB P "_law_is_worth" 1 b_t__law_is_worth
  lname : HasB P "_law_is_name" 2 b_t__law_is_name
  depth : HasB P "_law_depth" 1 b_t__law_depth
  told : HasB P "_law_told" 2 b_t__law_told
def sgn (c : Nat) : Str := ⟨#[c]⟩
def letB (x : Str) : Bool := !(Builtin.Str.occurrences (Str.ofString "abcdefghijklmnopqrstuvwxyz") x 0 (Str.ofString "abcdefghijklmnopqrstuvwxyz").length 1).isEmpty
def worthB : PyData → Bool
  | .int i => decide (0 ≤ i ∧ i ≤ 255)
  | _ => false
def nameB : PyData → Bool
  | .str x => !decide (x = Str.ofString "at") && (decide (1 ≤ x.length ∧ x.length ≤ 6) && x.cps.toList.all fun c => letB (sgn c))
  | _ => false
def opB (x : Str) : Bool := (t_OPS.lookup x).isSome
section
variable {P : Pg} {st : Sto} {ρ : Env}
theorem wp_callK {i : FI} {ks : List Str} {c : List Vl → M Vl} {f g : Env → M (List Vl)} {Q : Vl → Sto → Prop} : Wp (callK i ks c f g ρ) st Q = Wp (f ρ) st fun as s1 => Wp (g ρ) s1 fun zs s2 => Wp (if as.length = i.n ∧ zs.length = ks.length then guardN (i.n + i.kw.length) c (as ++ pick (selIx ks i.kw 0) (zs ++ (missK ks i.kw).map fun y => .d y.2)) else nope) s2 Q := by
  unfold callK
  simp only [wp_bind]
theorem wp_whK {a b : Vl} {c : List Vl → M Vl} {Q : Vl → Sto → Prop} : Wp (if [a].length = t_fi_is_whole.n ∧ [b].length = ([Str.ofString "most"] : List Str).length then guardN (t_fi_is_whole.n + t_fi_is_whole.kw.length) c ([a] ++ pick (selIx [Str.ofString "most"] t_fi_is_whole.kw 0) ([b] ++ (missK [Str.ofString "most"] t_fi_is_whole.kw).map fun y => .d y.2)) else nope) st Q = Wp (c [a, .d (.int 0), b]) st Q := by
  have e1 : selIx [Str.ofString "most"] t_fi_is_whole.kw 0 = [1, 0] := by decide +kernel
  have e2 : (missK [Str.ofString "most"] t_fi_is_whole.kw).map (fun y => Vl.d y.2) = [.d (.int 0)] := by
    have : missK [Str.ofString "most"] t_fi_is_whole.kw = [(Str.ofString "least", PyData.int 0)] := by kernel_rfl
    rw [this]; rfl
  rw [e1, e2]
  rfl
theorem oq_len_s {x : Str} {Q : Vl → Sto → Prop} : OptQ (pLenA1 (.d (.str x)) st) Q = (x.length ≤ sizeLine ∧ Q (.d (.int x.length)) st) := by
  show OptQ (if _ then _ else _) Q = _
  rw [oq_ite]; rfl
theorem oq_inS {x y : Str} {Q : Vl → Sto → Prop} : OptQ (cmpP .In (.d (.str x)) (.d (.str y)) st) Q = Q (.d (.bool !(Builtin.Str.occurrences y x 0 y.length 1).isEmpty)) st := by
  show Q (.d (.bool (false ^^ !(Builtin.Str.occurrences y x 0 y.length 1).isEmpty))) st = _
  rw [Bool.false_xor]
theorem oq_ninS {x y : Str} {Q : Vl → Sto → Prop} : OptQ (cmpP .NotIn (.d (.str x)) (.d (.str y)) st) Q = Q (.d (.bool (Builtin.Str.occurrences y x 0 y.length 1).isEmpty)) st := by
  show Q (.d (.bool (true ^^ !(Builtin.Str.occurrences y x 0 y.length 1).isEmpty))) st = _
  rw [Bool.true_xor, Bool.not_not]
def wkS (x : Str) : Wk := ⟨x.cps.size, fun i _ => some ((x.cps[i]?).map fun c => .str ⟨#[c]⟩)⟩
theorem it_s {x : Str} {Q : Wk → Sto → Prop} : Wp (itM (.d (.str x))) st Q = Q (wkS x) st := rfl
theorem wk_s {C : Sto → Prop} {x : Str} : WalksC C (wkS x) (x.cps.toList.map fun c => .str (sgn c)) := by
  refine ⟨by simp [wkS], fun i _ _ _ => ?_⟩
  show some _ = some _
  simp [sgn]
theorem isiS : (isi .non .int = false ∧ isi .bl .int = true) ∧ (isi .str .int = false ∧ isi .lst .int = false) ∧ (isi .tup .int = false ∧ isi .dct .int = false) := ⟨⟨rfl, rfl⟩, ⟨rfl, rfl⟩, ⟨rfl, rfl⟩⟩
theorem tyS0 : tyD .none = .non ∧ ∀ kvs, tyD (.dict kvs) = .dct := ⟨rfl, fun _ => rfl⟩
theorem wholeK_is (C : TermP P) {m : Nat} (hm : 0 < m) {d : PyData} : Is (callN P m "is_whole" [.d d, .d (.int 0), .d (.int 255)]) st (.d (.bool (worthB d))) := by
  refine C.whole.is (k := 0) hm fun m' hm' => ?_
  show SWp _ [some (.d d), some (.d (.int 0)), some (.d (.int 255))] _ _ _
  unfold b_t_is_whole
  cases d with
  | int i =>
    ktr_call trivial trivial
    split <;> (unfold worthB; first | (congr 2; exact decide_eq_decide.mpr (by omega)) | (simp; omega))
  | _ =>
    ktr_call isiS tyS0
    first | rfl | trivial
theorem worth_is (C : TermP P) {m : Nat} (hm : 1 < m) {d : PyData} : Is (callN P m "is_worth" [.d d]) st (.d (.bool (worthB d))) := by
  refine C.worth.is (k := 1) hm fun m' hm' => ?_
  show SWp _ [some (.d d)] _ _ _
  unfold b_t_is_worth
  have w : ∀ Q : Vl → Sto → Prop, Wp (callN P m' (Str.ofString "is_whole") [.d d, .d (.int 0), .d (.int (256 - 1))]) st Q = _ := fun Q => (wholeK_is (st := st) C (m := m') (by omega) (d := d)).wp (Q := Q)
  ktr_call (@wp_callK) (And.intro (@wp_whK) w)
  try exact ⟨trivial, trivial⟩
theorem lworth_is (C : TermP P) {m : Nat} (hm : 0 < m) {d : PyData} : Is (callN P m "_law_is_worth" [.d d]) st (.d (.bool (worthB d))) := by
  refine C.lworth.is (k := 0) hm fun m' hm' => ?_
  show SWp _ [some (.d d)] _ _ _
  unfold b_t__law_is_worth
  cases d with
  | int i =>
    ktr_call trivial trivial
    split <;> (unfold worthB; first | (congr 2; exact decide_eq_decide.mpr (by omega)) | (simp; omega))
  | _ =>
    ktr_call isiS tyS0
    first | rfl | trivial
/-- a text that is one, not too long -/
theorem empty_s {x : Str} : x = Str.ofString "" ↔ x.length = 0 := by
  constructor
  · rintro rfl; rfl
  · intro h
    obtain ⟨c⟩ := x
    have : c = #[] := Array.eq_empty_of_size_eq_zero h
    subst this
    rfl
theorem strOk_sgn {x : Str} (h : PyData.strOk x = true) : ∀ c ∈ x.cps.toList, PyData.strOk (sgn c) = true := by
  intro c hc
  unfold PyData.strOk at h ⊢
  rw [Array.all_eq_true'] at h
  have := h c (by simpa using hc)
  simpa [sgn] using this
def Sx : PyData → Prop
  | .str x => PyData.strOk x = true ∧ x.length ≤ 100
  | _ => True
theorem name_is (C : TermP P) {m : Nat} (hm : 0 < m) {d : PyData} (hs : Sx d) : Is (callN P m "is_name" [.d d]) st (.d (.bool (nameB d))) := by
  refine C.nam.is (k := 0) hm fun m' hm' => ?_
  show SWp _ [some (.d d), none] _ _ _
  unfold b_t_is_name
  cases d with
  | str x =>
    obtain ⟨h1, h2⟩ := hs
    have e1 := fun (s : String) (t : Sto) (Q : Vl → Sto → Prop) => @oq_eqW t x h1 s Q
    have e2 : x.length = x.cps.size := rfl
    have lz : (x.length ≤ 16777216) = True := eq_true (by omega)
    ktr_call (And.intro isiS e1) (And.intro (@oq_len_s) (And.intro lz (@it_s)))
    by_cases c1 : x = Str.ofString "at"
    · rw [if_pos c1]; simp [nameB, c1]
    rw [if_neg c1]
    by_cases c2 : (1 : Int) ≤ x.length
    · rw [if_pos c2]
      by_cases c3 : (x.length : Int) ≤ 6
      · rw [if_neg (by omega)]
        refine wp_lcY' wk_s (fun c => .bool (letB (sgn c))) (by rw [Array.length_toList]; omega) (fun c _ => ⟨_, rfl, ?_⟩) ?_
        · ktr_call (@oq_inS) trivial
          first | exact ⟨rfl, rfl⟩ | rfl
        · rw [oq_all, back_d, List.take_length]
          refine ⟨?_, rfl⟩
          have c4 : decide (1 ≤ x.length ∧ x.length ≤ 6) = true := decide_eq_true (by omega)
          simp only [nameB, c4, decide_eq_false c1, Bool.not_false, Bool.true_and]
      · rw [if_pos c3]
        have c4 : decide (1 ≤ x.length ∧ x.length ≤ 6) = false := decide_eq_false (by omega)
        simp only [nameB, c4, Bool.false_and, Bool.and_false]
    · rw [if_neg c2]
      have c4 : decide (1 ≤ x.length ∧ x.length ≤ 6) = false := decide_eq_false (by omega)
      simp only [nameB, c4, Bool.false_and, Bool.and_false]
  | _ =>
    ktr_call isiS tyS0
    first | rfl | trivial
theorem lname_is (C : TermP P) {m : Nat} (hm : 0 < m) {d : PyData} (hs : Sx d) : Is (callN P m "_law_is_name" [.d d]) st (.d (.bool (nameB d))) := by
  refine C.lname.is (k := 0) hm fun m' hm' => ?_
  show SWp _ [some (.d d), none] _ _ _
  unfold b_t__law_is_name
  cases d with
  | str x =>
    obtain ⟨h1, h2⟩ := hs
    have e1 := fun (s : String) (t : Sto) (Q : Vl → Sto → Prop) => @oq_eqW t x h1 s Q
    have lz : (x.length ≤ 16777216) = True := eq_true (by omega)
    ktr_call (And.intro isiS e1) (And.intro (@oq_len_s) (And.intro lz (@it_s)))
    by_cases c1 : x = Str.ofString "at"
    · rw [if_pos c1]; simp [nameB, c1]
    rw [if_neg c1]
    by_cases c3 : (6 : Int) < x.length
    · rw [if_pos c3]
      have c4 : decide (1 ≤ x.length ∧ x.length ≤ 6) = false := decide_eq_false (by omega)
      simp only [nameB, c4, Bool.false_and, Bool.and_false]
    rw [if_neg c3]
    by_cases c2 : x = Str.ofString ""
    · rw [if_pos c2]
      have c4 : decide (1 ≤ x.length ∧ x.length ≤ 6) = false := decide_eq_false (by have := empty_s.mp c2; omega)
      simp only [nameB, c4, Bool.false_and, Bool.and_false]
    rw [if_neg c2]
    refine wp_lcP' wk_s (fun c => !letB (sgn c)) (fun c => .str (sgn c)) (by rw [Array.length_toList]; have e : x.cps.size = x.length := rfl; omega) (fun c _ => ⟨_, rfl, ?_⟩) ?_
    · ktr_call (@oq_ninS) trivial
      simp [letB, sgn]
    · have ok : ∀ y ∈ (x.cps.toList.filter fun c => !letB (sgn c)).map sgn, PyData.strOk y = true := fun y hy => by
        obtain ⟨c, hc, rfl⟩ := List.mem_map.mp hy
        exact strOk_sgn h1 c (List.mem_filter.mp hc).1
      have em : (x.cps.toList.filter fun c => !letB (sgn c)).map (fun c => PyData.str (sgn c)) = ((x.cps.toList.filter fun c => !letB (sgn c)).map sgn).map .str := by rw [List.map_map]; rfl
      rw [em]
      have eqn := fun (Q : Vl → Sto → Prop) => oq_eqE (st := st) (Q := Q) EncOk.str.list (by decide) (a := (x.cps.toList.filter fun c => !letB (sgn c)).map sgn) (b := []) ok (by simp)
      rw [List.map_nil] at eqn
      rw [eqn, back_d, List.take_length]
      refine ⟨?_, rfl⟩
      have c4 : decide (1 ≤ x.length ∧ x.length ≤ 6) = true := decide_eq_true (by have : x.length ≠ 0 := fun z => c2 (empty_s.mpr z); omega)
      simp only [nameB, c4, decide_eq_false c1, Bool.not_false, Bool.true_and]
      congr 2
      rw [Bool.eq_iff_iff, decide_eq_true_iff, List.map_eq_nil_iff, List.filter_eq_nil_iff, List.all_eq_true]
      simp
  | _ =>
    ktr_call isiS tyS0
    first | rfl | trivial
end
end Iv
set_option Elab.async false
set_option linter.all false
set_option maxRecDepth 100000
set_option maxHeartbeats 4000000
/-! Wc2: the loops that laws draw. -/
namespace Iv
open PySem
local macro_rules   | `(tactic| ktr_call $a:term $b:term) => `(tactic| simp (config := { maxSteps := 400000, failIfUnchanged := false, implicitDefEqProofs := false }) only [↓sw_forS, ↓wp_lcG, ↓wp_itV, ↓wp_itR1, ↓wp_itR2, ↓it_l, ↓it_t, ↓it_pL, ↓it_pT, ↓it_iL, ↓it_iT, ↓it_rD, ↓it_ref, ↓it_r1, ↓it_r2, ↓en_t, ↓en_l, ↓en_rD, ↓en_pL, ↓en_iL, ↓en_iT, ↓stw_nil, ↓stw_stw, List.append_nil, ↓sw_bad, ↓sw_seq, ↓sw_next, ↓sw_set, ↓sw_ret, ↓sw_retN, ↓sw_drop, ↓sw_if, ↓sw_sub, ↓sw_asg, ↓sw_par, ↓wp_bind, ↓wp_ret, ↓wp_cM, ↓wp_nil, ↓wp_cons, ↓wp_v0, ↓wp_vs, ↓wp_ty, ↓wp_gl, ↓wp_bin, ↓wp_un, ↓wp_callP, ↓wp_callF, ↓wp_g1, ↓wp_g2, ↓wp_g3, ↓wp_g4,       ↓wp_bM, ↓wp_asB, ↓wp_notM, ↓wp_orM, ↓wp_andM, ↓wp_tst, ↓wp_trub, ↓tru_int, ↓tru_none, ↓tru_list, ↓tru_tuple, ↓wp_andV, ↓wp_orV, ↓wp_notV, ↓wp_ifV, ↓wp_chain, ↓wp_frzD, ↓wp_tupM, ↓oq_tuple0, ↓wp_lstM, ↓wp_lstC, ↓frzs_nil, ↓frzs_cons, ↓frzs_ref, ↓wp_retL', ↓wp_retT', ↓wp_newC', ↓wp_meth1, ↓wp_meth2, ↓wp_isL, ↓oq_append, ↓oq_pop, ↓pl_ref, ↓ix_ref', ↓ex_lst, ex_lst, List.getElem?_cons_zero, List.getElem?_cons_succ, ↓ls_r, ↓ls_0, ↓ls_1, ↓ls_2, ↓stw_r, ↓stw_k, ↓stw_k0, ↓stw_set, ↓stw_setk, ↓stw_setk0, ↓stw_app, ↓stw_len, ↓stw_back, ↓stw_new,       ↓oq_l1, ↓oq_l2, ↓oq_add, ↓oq_sub, ↓oq_mul, ↓oq_neg, ↓oq_max, ↓oq_min, ↓oq_mod, ↓oq_fdiv, ↓oq_abs, ↓oq_intB, ↓oq_le, ↓oq_lt, ↓oq_ge, ↓oq_gt, ↓oq_eqI, ↓oq_neI, ↓oq_eqS', ↓ty_intsL, ↓ty_intsT, ↓ty_pairsT, ↓ty_pairsL, ↓ty_rowsD, ↓ty_rowD, ↓ty_pairD, ↓pl_pairsT, ↓pl_intsL, ↓pl_intsT, ↓pl_pairsL, ↓pl_rowsD, ↓oq_eqIs, ↓oq_neIs, ↓oq_inIs, ↓oq_ninIs, ↓pl_list, ↓pl_tuple, ↓oq_isi, ↓ix_tup, ↓ix_lst, ↓at_0, ↓at_1, ↓at_nat, ↓at_m1, ↓at_lit, ↓eq_ref, ↓en_ref, ↓drop_last, ↓get_last, ↓stw_new1, ↓oq_tupleR, ↓add_ll, ↓add_tt, ↓add_rl, ↓ne_nilT, ↓eq_nilI, ↓in_dictI, ↓ix_dictI, ↓on_some, ↓on_none, ↓on_map, ↓asgQ_some, ↓asgQ_none, ↓aName, ↓aTup_tup, ↓aTup_lst, ↓aCons_cons, ↓aNil_nil, ↓back_take, ↓back_set, ↓ty_int, ↓ty_bool, ↓ty_str, ↓ty_list, ↓ty_tuple, ↓isi_self, ↓isi_ib,       ↓List.set_cons_succ, ↓List.set_cons_zero, List.set_cons_succ, List.set_cons_zero, wp_v0, wp_vs, wipe_nil, wipe_cons, implies_true, forall_const, ↓wp_slM, ↓wp_noO, ↓wp_someO, ↓wp_asI, ↓sl_list, ↓sl_tuple, ↓Option.bind_some, ↓$a, ↓$b, decide_eq_true_eq, Bool.not_eq_true', decide_eq_false_iff_not, ↓reduceIte, true_and, and_true, if_true, if_false, List.length_cons, List.length_nil, List.length_map, ↓srt_ref, ↓srt_pL, Nat.add_zero, Nat.zero_add, List.nil_append, List.cons_append, List.zip_cons_cons, List.zip_nil_left, List.zip_nil_right, List.foldl_cons, List.foldl_nil, ne_eq, not_true_eq_false, not_false_eq_true, reduceCtorEq, Bool.true_eq_false, Bool.false_eq_true, Bool.not_true, Bool.not_false, Bool.not_not, Nat.reduceAdd, sizeLine_eq, Nat.reduceLeDiff, cast_lit, Int.reduceEq, Int.reduceLT, Int.reduceLE, Int.reduceNeg])
local macro_rules   | `(tactic| walk_at "dec") => `(tactic| (repeat' split) <;> first | exact (decide_eq_true (by omega)).symm | exact (decide_eq_false (by omega)).symm | exact decide_eq_decide.mpr (by omega) | exact decide_eq_true (by omega) | exact decide_eq_false (by omega)) 
structure GenP (P : Pg) : Prop extends CodeP1 P where
  lawLoops : HasB P "_law_loops" 9 b__law_loops
  lawAround : HasB P "_law_around" 4 b__law_around
  lawPlain : HasB P "_law_plain_row" 8 b__law_plain_row
  lawCode : HasB P "_law_code" 19 b__law_code
section
variable {P : Pg} {st : Sto} {cs : List Cell} {p : List PyData} {r : Nat}
/-- apart, either way about -/
def apart2 (p q : Pr2) : Prop := p.2 < q.1 ∨ q.2 < p.1 ∨ (p.1 < q.1 ∧ q.2 < p.2) ∨ (q.1 < p.1 ∧ p.2 < q.2)
structure LoopsDrawn (size : Int) (l : List Pr2) : Prop where
  few : l.length ≤ 2
  inn : ∀ p ∈ l, 0 ≤ p.1 ∧ p.1 < p.2 ∧ p.2 < size - 1
  ap : l.Pairwise apart2
theorem lawLoops_w (C : GenP P) {m B size : Nat} {Q : Vl → Sto → Prop} (hm : 1 < m) (hr : st[r]? = some (.lst p)) (hp : Pot B p) (hb : B ≤ 100000000000) (h3 : 3 ≤ size) (h4 : size ≤ 1000)
    (h : ∀ l p', LoopsDrawn size l → Pot (B + 10) p' → Q (.d (pairsL (sort2 l))) (Stw st r p' [])) : Wp (callN P m "_law_loops" [.ref r, .d (.int size)]) st Q := by
  refine C.lawLoops.pot (k := 1) hm hr fun m' hm' hl => ?_
  show SWp _ [some (.ref r), some (.d (.int size)), none, none, none, none, none, none, none] _ _ _
  unfold b__law_loops
  ktr_call hl trivial
  refine take_w C.toCodeP (by omega) hl hp (by omega) (by omega) (by omega) fun d p1 d0 d1 hp1 => ?_
  ktr_call hl trivial
  refine ⟨by omega, ?_⟩
  refine sw_forN (wk_r' (C := fun _ => True) (n := d.toNat) rfl) (fun i ρ' st' => ∃ l p' x3 x4 x5 x6, st' = Stw st r p' [.lst (l.map pairD)] ∧ ρ' = [some (.ref r), some (.d (.int size)), some (.ref st.length), x3, x4, x5, x6, none, none] ∧ LoopsDrawn size l ∧ Pot (B + 1 + 2 * i) p') (fun _ _ _ _ => trivial) ⟨[], p1, _, _, _, _, rfl, rfl, ⟨by decide, by simp, by simp⟩, hp1⟩ (fun i hi ρ' st' hI => ?_) fun ρ' st' hI => ?_
  · obtain ⟨l, p', x3, x4, x5, x6, rfl, rfl, hL, hp'⟩ := hI
    refine ⟨_, rfl, ?_⟩
    ktr_call hl trivial
    by_cases h3' : (3 : Int) < size
    · rw [if_pos h3']
      refine take_w C.toCodeP (by omega) hl hp' (by omega) (by omega) (by omega) fun d1 p2 e0 e1 hp2 => ?_
      ktr_call hl trivial
      refine take_w C.toCodeP (by omega) hl hp2 (by omega) (by omega) (by omega) fun d2 p3 f0 f1 hp3 => ?_
      ktr_call hl trivial
      refine wp_lcP' (enc := pairD) (l := l) (wk_ref (by simp) fun s hs => by subst hs; rw [stw_k0]; rfl) (fun q => decide (d1 + 1 + d2 < q.1 ∨ q.2 < d1 ∨ (q.1 < d1 ∧ d1 + 1 + d2 < q.2) ∨ (d1 < q.1 ∧ q.2 < d1 + 1 + d2))) (fun _ => .int 1) (by have := hL.few; omega) (fun t ht => ⟨_, rfl, ?_⟩) ?_
      · ktr_call trivial trivial
        walk_at "dec"
      ktr_call hl trivial
      have few := hL.few
      by_cases hlt : (l.length : Int) < 2
      · rw [if_pos hlt]
        split
        · rename_i hall
          have hall' : ∀ q ∈ l, (d1 + 1 + d2 < q.1 ∨ q.2 < d1 ∨ (q.1 < d1 ∧ d1 + 1 + d2 < q.2) ∨ (d1 < q.1 ∧ q.2 < d1 + 1 + d2)) := by
            have h1 : (l.filter fun q => decide (d1 + 1 + d2 < q.1 ∨ q.2 < d1 ∨ (q.1 < d1 ∧ d1 + 1 + d2 < q.2) ∨ (d1 < q.1 ∧ q.2 < d1 + 1 + d2))).length = l.length := by omega
            have h2 := List.length_filter_eq_length_iff.mp h1
            intro q hq
            exact of_decide_eq_true (h2 q hq)
          refine ⟨by omega, l ++ [(d1, d1 + 1 + d2)], p3, _, _, _, _, by rw [List.map_append]; rfl, rfl, ⟨by simp; omega, fun q hq => ?_, ?_⟩, hp3.mono (by omega)⟩
          · rcases List.mem_append.mp hq with hq | hq
            · exact hL.inn q hq
            · rw [List.mem_singleton.mp hq]
              dsimp only
              omega
          · rw [List.pairwise_append]
            refine ⟨hL.ap, by simp, fun a ha b hb => ?_⟩
            rw [List.mem_singleton.mp hb]
            have := hall' a ha
            unfold apart2
            dsimp only
            omega
        · exact ⟨l, p3, _, _, _, _, rfl, rfl, hL, hp3.mono (by omega)⟩
      · rw [if_neg hlt]
        exact ⟨l, p3, _, _, _, _, rfl, rfl, hL, hp3.mono (by omega)⟩
    · rw [if_neg h3']
      exact ⟨l, p', _, _, _, _, rfl, rfl, hL, hp'.mono (by omega)⟩
  · obtain ⟨l, p', x3, x4, x5, x6, rfl, rfl, hL, hp'⟩ := hI
    ktr_call hl trivial
    have few := hL.few
    refine ⟨sortOk_pairs (by rw [sizeLine_eq]; omega), ?_⟩
    rw [sortD_pairs]
    exact h l p' hL (hp'.mono (by omega))
end
end Iv
set_option Elab.async false
set_option linter.all false
set_option maxRecDepth 100000
set_option maxHeartbeats 4000000
/-! Wc3: the rows that laws draw. -/
namespace Iv
open PySem
local macro_rules   | `(tactic| ktr_call $a:term $b:term) => `(tactic| simp (config := { maxSteps := 400000, failIfUnchanged := false, implicitDefEqProofs := false }) only [↓sw_forS, ↓wp_lcG, ↓wp_itV, ↓wp_itR1, ↓wp_itR2, ↓it_l, ↓it_t, ↓it_pL, ↓it_pT, ↓it_iL, ↓it_iT, ↓it_rD, ↓it_ref, ↓it_r1, ↓it_r2, ↓en_t, ↓en_l, ↓en_rD, ↓en_pL, ↓en_iL, ↓en_iT, ↓stw_nil, ↓stw_stw, List.append_nil, ↓sw_bad, ↓sw_seq, ↓sw_next, ↓sw_set, ↓sw_ret, ↓sw_retN, ↓sw_drop, ↓sw_if, ↓sw_sub, ↓sw_asg, ↓sw_par, ↓wp_bind, ↓wp_ret, ↓wp_cM, ↓wp_nil, ↓wp_cons, ↓wp_v0, ↓wp_vs, ↓wp_ty, ↓wp_gl, ↓wp_bin, ↓wp_un, ↓wp_callP, ↓wp_callF, ↓wp_g1, ↓wp_g2, ↓wp_g3, ↓wp_g4,       ↓wp_bM, ↓wp_asB, ↓wp_notM, ↓wp_orM, ↓wp_andM, ↓wp_tst, ↓wp_trub, ↓tru_int, ↓tru_none, ↓tru_list, ↓tru_tuple, ↓wp_andV, ↓wp_orV, ↓wp_notV, ↓wp_ifV, ↓wp_chain, ↓wp_frzD, ↓wp_tupM, ↓oq_tuple0, ↓wp_lstM, ↓wp_lstC, ↓frzs_nil, ↓frzs_cons, ↓frzs_ref, ↓wp_retL', ↓wp_retT', ↓wp_newC', ↓wp_meth1, ↓wp_meth2, ↓wp_isL, ↓oq_append, ↓oq_pop, ↓pl_ref, ↓ix_ref', ↓ex_lst, ex_lst, List.getElem?_cons_zero, List.getElem?_cons_succ, ↓ls_r, ↓ls_0, ↓ls_1, ↓ls_2, ↓stw_r, ↓stw_k, ↓stw_k0, ↓stw_set, ↓stw_setk, ↓stw_setk0, ↓stw_app, ↓stw_len, ↓stw_back, ↓stw_new,       ↓oq_l1, ↓oq_l2, ↓oq_add, ↓oq_sub, ↓oq_mul, ↓oq_neg, ↓oq_max, ↓oq_min, ↓oq_mod, ↓oq_fdiv, ↓oq_abs, ↓oq_intB, ↓oq_le, ↓oq_lt, ↓oq_ge, ↓oq_gt, ↓oq_eqI, ↓oq_neI, ↓oq_eqS', ↓ty_intsL, ↓ty_intsT, ↓ty_pairsT, ↓ty_pairsL, ↓ty_rowsD, ↓ty_rowD, ↓ty_pairD, ↓pl_pairsT, ↓pl_intsL, ↓pl_intsT, ↓pl_pairsL, ↓pl_rowsD, ↓oq_eqIs, ↓oq_neIs, ↓oq_inIs, ↓oq_ninIs, ↓pl_list, ↓pl_tuple, ↓oq_isi, ↓ix_tup, ↓ix_lst, ↓at_0, ↓at_1, ↓at_nat, ↓at_m1, ↓at_lit, ↓eq_ref, ↓en_ref, ↓drop_last, ↓get_last, ↓stw_new1, ↓oq_tupleR, ↓add_ll, ↓add_tt, ↓add_rl, ↓ne_nilT, ↓eq_nilI, ↓in_dictI, ↓ix_dictI, ↓on_some, ↓on_none, ↓on_map, ↓asgQ_some, ↓asgQ_none, ↓aName, ↓aTup_tup, ↓aTup_lst, ↓aCons_cons, ↓aNil_nil, ↓back_take, ↓back_set, ↓ty_int, ↓ty_bool, ↓ty_str, ↓ty_list, ↓ty_tuple, ↓isi_self, ↓isi_ib,       ↓List.set_cons_succ, ↓List.set_cons_zero, List.set_cons_succ, List.set_cons_zero, wp_v0, wp_vs, wipe_nil, wipe_cons, implies_true, forall_const, ↓wp_slM, ↓wp_noO, ↓wp_someO, ↓wp_asI, ↓sl_list, ↓sl_tuple, ↓Option.bind_some, ↓$a, ↓$b, decide_eq_true_eq, Bool.not_eq_true', decide_eq_false_iff_not, ↓reduceIte, true_and, and_true, if_true, if_false, List.length_cons, List.length_nil, List.length_map, ↓srt_ref, ↓srt_pL, Nat.add_zero, Nat.zero_add, List.nil_append, List.cons_append, List.zip_cons_cons, List.zip_nil_left, List.zip_nil_right, List.foldl_cons, List.foldl_nil, ne_eq, not_true_eq_false, not_false_eq_true, reduceCtorEq, Bool.true_eq_false, Bool.false_eq_true, Bool.not_true, Bool.not_false, Bool.not_not, Nat.reduceAdd, sizeLine_eq, Nat.reduceLeDiff, cast_lit, Int.reduceEq, Int.reduceLT, Int.reduceLE, Int.reduceNeg])
local macro_rules   | `(tactic| walk_at "dec") => `(tactic| (repeat' split) <;> first | exact (decide_eq_true (by omega)).symm | exact (decide_eq_false (by omega)).symm | exact decide_eq_decide.mpr (by omega) | exact decide_eq_true (by omega) | exact decide_eq_false (by omega)) 
section
variable {P : Pg} {st : Sto} {cs : List Cell} {p : List PyData} {r : Nat}
theorem lawAround_is (C : GenP P) {m : Nat} (hm : 0 < m) {l : List Pr2} {row : Int} (hz : l.length ≤ 1000) : Is (callN P m "_law_around" [.d (pairsL l), .d (.int row)]) st (.d (intsL (aroundL l row))) :=
  is_of (C.lawAround.wp (k := 0) hm fun m' hm' => around_run (c := callN P m') hz ⟨rfl, rfl⟩)
theorem plain_row (w : String) (hw : w ≠ "count" ∧ w ≠ "again" ∧ w ≠ "test" ∧ w ≠ "go" ∧ w ≠ "end") : (Str.ofString w) ≠ sCount ∧ (Str.ofString w) ≠ sAgain ∧ (Str.ofString w) ≠ "test" ∧ (Str.ofString w) ≠ "go" ∧ (Str.ofString w) ≠ sEnd := by
  simp only [sCount, sAgain, sEnd, ne_eq, ofS_inj]
  exact hw
theorem lawPlain_w (C : GenP P) {m B : Nat} {many : Int} {sizes : List Int} {Q : Vl → Sto → Prop} (hm : 1 < m) (hr : st[r]? = some (.lst p)) (hp : Pot B p) (hb : B ≤ 100000000000) (h3 : 1 ≤ many) (h4 : many ≤ 1000) (h5 : sizes.length ≤ 1000)
    (h : ∀ x p', PlainR many sizes.length x → Pot (B + 10) p' → Q (.d (rowD x)) (Stw st r p' [])) : Wp (callN P m "_law_plain_row" [.ref r, .d (.int many), .d (intsT sizes)]) st Q := by
  refine C.lawPlain.pot (k := 1) hm hr fun m' hm' hl => ?_
  show SWp _ [some (.ref r), some (.d (.int many)), some (.d (intsT sizes)), none, none, none, none, none] _ _ _
  unfold b__law_plain_row
  ktr_call hl trivial
  refine take_w C.toCodeP (by omega) hl hp (by omega) (by omega) (by omega) fun way p1 w0 w1 hp1 => ?_
  ktr_call hl trivial
  refine take_w C.toCodeP (by omega) hl hp1 (by omega) (by omega) (by omega) fun give p2 g0 g1 hp2 => ?_
  ktr_call hl trivial
  refine take_w C.toCodeP (by omega) hl hp2 (by omega) (by omega) (by omega) fun one p3 o0 o1 hp3 => ?_
  ktr_call hl trivial
  refine take_w C.toCodeP (by omega) hl hp3 (by omega) (by omega) (by omega) fun other p4 q0 q1 hp4 => ?_
  have rest : if way < 5 then
      Wp (callN P m' "_law_take" [.ref r, .d (.int 256)]) (Stw st r p4 []) fun a s1 =>
        Wp (frzsM [a]) s1 fun xs s => xs.length ≤ 16777213 ∧ Wp (callN P m' "_law_take" [.ref r, .d (.int 4)]) s fun b s2 =>
          OptQ (pIxA2 (.d (.list (.int 0 :: .int 1 :: .int 255 :: xs))) b s2) fun a s1 => Wp (frzsM [a]) s1 fun xs s =>
            xs.length ≤ 16777214 ∧ Back st.length (.d (.tuple (.str "set" :: .int give :: xs))) s Q
    else if way = 5 then
      Wp (callN P m' "_law_take" [.ref r, .d (.int 3)]) (Stw st r p4 []) fun a s1 => OptQ (pFdiv2 a (.d (.int 2)) s1) fun b s2 =>
        OptQ (pIxA2 (.d (.list [.tuple [.str "copy", .int give, .int one], .tuple [.str "rest"]])) b s2) fun v st' => Back st.length v st' Q
    else
      Wp (callN P m' "_law_take" [.ref r, .d (.int 6)]) (Stw st r p4 []) fun b s2 =>
        OptQ (pIxA2 (.d (.list [.str "*", .str "+", .str "-", .str "*", .str "<", .str "="])) b s2) fun a s1 =>
          Wp (frzsM [a, .d (.int give), .d (.int one), .d (.int other)]) s1 fun xs s => xs.length ≤ sizeLine ∧ Back st.length (.d (.tuple xs)) s Q := by
    split
    · refine take_w C.toCodeP (by omega) hl hp4 (by omega) (by omega) (by omega) fun w p5 a0 a1 hp5 => ?_
      ktr_call hl trivial
      refine take_w C.toCodeP (by omega) hl hp5 (by omega) (by omega) (by omega) fun d p6 d0 d1 hp6 => ?_
      have key : ∀ v, 0 ≤ v → v ≤ 255 → Q (.d (rowD ("set", [give, v]))) (Stw st r p6 []) := fun v v0 v1 => h _ p6 ⟨fun n => row_set (by omega), plain_row "set" (by decide)⟩ (hp6.mono (by omega))
      rcases (show d = 0 ∨ d = 1 ∨ d = 2 ∨ d = 3 by omega) with rfl | rfl | rfl | rfl <;> (ktr_call hl trivial; exact key _ (by omega) (by omega))
    · split
      · refine take_w C.toCodeP (by omega) hl hp4 (by omega) (by omega) (by omega) fun d p5 d0 d1 hp5 => ?_
        ktr_call hl trivial
        refine ⟨by decide, ?_⟩
        rcases (show d / 2 = 0 ∨ d / 2 = 1 by omega) with e | e <;> rw [e] <;> ktr_call hl trivial
        · exact h ("copy", [give, one]) p5 ⟨fun n => row_copy (by omega), plain_row "copy" (by decide)⟩ (hp5.mono (by omega))
        · exact h ("rest", []) p5 ⟨fun n => row_rest, plain_row "rest" (by decide)⟩ (hp5.mono (by omega))
      · refine take_w C.toCodeP (by omega) hl hp4 (by omega) (by omega) (by omega) fun d p5 d0 d1 hp5 => ?_
        have key : ∀ w : String, ((Str.ofString w : Str) = "+" ∨ (Str.ofString w : Str) = "-" ∨ (Str.ofString w : Str) = "*" ∨ (Str.ofString w : Str) = "<" ∨ (Str.ofString w : Str) = "=") → (w ≠ "count" ∧ w ≠ "again" ∧ w ≠ "test" ∧ w ≠ "go" ∧ w ≠ "end") → Q (.d (rowD (w, [give, one, other]))) (Stw st r p5 []) := fun w e1 e2 => h _ p5 ⟨fun n => row_op e1 (by omega), plain_row w e2⟩ (hp5.mono (by omega))
        rcases (show d = 0 ∨ d = 1 ∨ d = 2 ∨ d = 3 ∨ d = 4 ∨ d = 5 by omega) with rfl | rfl | rfl | rfl | rfl | rfl <;> (ktr_call hl trivial; exact key _ (by simp only [ofS_inj]; decide) (by decide))
  ktr_call hl trivial
  by_cases hs : sizes = []
  · rw [if_neg (by simpa using hs)]
    exact rest
  · rw [if_pos (by simpa using hs)]
    by_cases h3' : way < 3
    · rw [if_pos h3']
      have hz : 0 < sizes.length := List.length_pos_iff.mpr hs
      refine take_w C.toCodeP (by omega) hl hp4 (by omega) (by omega) (by omega) fun ar p5 a0 a1 hp5 => ?_
      ktr_call hl trivial
      refine take_w C.toCodeP (by omega) hl hp5 (by omega) (by omega) (by omega) fun d p6 d0 d1 hp6 => ?_
      rcases (show d = 0 ∨ d = 1 by omega) with rfl | rfl
      · ktr_call hl trivial
        exact h ("get", [give, ar, one]) p6 ⟨fun n => row_get (by omega), plain_row "get" (by decide)⟩ (hp6.mono (by omega))
      · ktr_call hl trivial
        exact h ("put", [ar, one, other]) p6 ⟨fun n => row_put (by omega), plain_row "put" (by decide)⟩ (hp6.mono (by omega))
    · rw [if_neg h3']
      exact rest
end
end Iv
set_option Elab.async false
set_option linter.all false
set_option maxRecDepth 100000
set_option maxHeartbeats 4000000
/-! Wc4: the codes that laws draw: what _law_code computes. -/
namespace Iv
open PySem
local macro_rules   | `(tactic| ktr_call $a:term $b:term) => `(tactic| simp (config := { maxSteps := 400000, failIfUnchanged := false, implicitDefEqProofs := false }) only [↓sw_forS, ↓wp_lcG, ↓wp_itV, ↓wp_itR1, ↓wp_itR2, ↓it_l, ↓it_t, ↓it_pL, ↓it_pT, ↓it_iL, ↓it_iT, ↓it_rD, ↓it_ref, ↓it_r1, ↓it_r2, ↓en_t, ↓en_l, ↓en_rD, ↓en_pL, ↓en_iL, ↓en_iT, ↓stw_nil, ↓stw_stw, List.append_nil, ↓sw_bad, ↓sw_seq, ↓sw_next, ↓sw_set, ↓sw_ret, ↓sw_retN, ↓sw_drop, ↓sw_if, ↓sw_sub, ↓sw_asg, ↓sw_par, ↓wp_bind, ↓wp_ret, ↓wp_cM, ↓wp_nil, ↓wp_cons, ↓wp_v0, ↓wp_vs, ↓wp_ty, ↓wp_gl, ↓wp_bin, ↓wp_un, ↓wp_callP, ↓wp_callF, ↓wp_g1, ↓wp_g2, ↓wp_g3, ↓wp_g4,       ↓wp_bM, ↓wp_asB, ↓wp_notM, ↓wp_orM, ↓wp_andM, ↓wp_tst, ↓wp_trub, ↓tru_int, ↓tru_none, ↓tru_list, ↓tru_tuple, ↓wp_andV, ↓wp_orV, ↓wp_notV, ↓wp_ifV, ↓wp_chain, ↓wp_frzD, ↓wp_tupM, ↓oq_tuple0, ↓wp_lstM, ↓wp_lstC, ↓frzs_nil, ↓frzs_cons, ↓frzs_ref, ↓wp_retL', ↓wp_retT', ↓wp_newC', ↓wp_meth1, ↓wp_meth2, ↓wp_isL, ↓oq_append, ↓oq_pop, ↓pl_ref, ↓ix_ref', ↓ex_lst, ex_lst, List.getElem?_cons_zero, List.getElem?_cons_succ, ↓ls_r, ↓ls_0, ↓ls_1, ↓ls_2, ↓stw_r, ↓stw_k, ↓stw_k0, ↓stw_set, ↓stw_setk, ↓stw_setk0, ↓stw_app, ↓stw_len, ↓stw_back, ↓stw_new,       ↓oq_l1, ↓oq_l2, ↓oq_add, ↓oq_sub, ↓oq_mul, ↓oq_neg, ↓oq_max, ↓oq_min, ↓oq_mod, ↓oq_fdiv, ↓oq_abs, ↓oq_intB, ↓oq_le, ↓oq_lt, ↓oq_ge, ↓oq_gt, ↓oq_eqI, ↓oq_neI, ↓oq_eqS', ↓ty_intsL, ↓ty_intsT, ↓ty_pairsT, ↓ty_pairsL, ↓ty_rowsD, ↓ty_rowD, ↓ty_pairD, ↓pl_pairsT, ↓pl_intsL, ↓pl_intsT, ↓pl_pairsL, ↓pl_rowsD, ↓oq_eqIs, ↓oq_neIs, ↓oq_inIs, ↓oq_ninIs, ↓pl_list, ↓pl_tuple, ↓oq_isi, ↓ix_tup, ↓ix_lst, ↓at_0, ↓at_1, ↓at_nat, ↓at_m1, ↓at_lit, ↓eq_ref, ↓en_ref, ↓drop_last, ↓get_last, ↓stw_new1, ↓oq_tupleR, ↓add_ll, ↓add_tt, ↓add_rl, ↓ne_nilT, ↓eq_nilI, ↓in_dictI, ↓ix_dictI, ↓on_some, ↓on_none, ↓on_map, ↓asgQ_some, ↓asgQ_none, ↓aName, ↓aTup_tup, ↓aTup_lst, ↓aCons_cons, ↓aNil_nil, ↓back_take, ↓back_set, ↓ty_int, ↓ty_bool, ↓ty_str, ↓ty_list, ↓ty_tuple, ↓isi_self, ↓isi_ib,       ↓List.set_cons_succ, ↓List.set_cons_zero, List.set_cons_succ, List.set_cons_zero, wp_v0, wp_vs, wipe_nil, wipe_cons, implies_true, forall_const, ↓wp_slM, ↓wp_noO, ↓wp_someO, ↓wp_asI, ↓sl_list, ↓sl_tuple, ↓Option.bind_some, ↓$a, ↓$b, decide_eq_true_eq, Bool.not_eq_true', decide_eq_false_iff_not, ↓reduceIte, true_and, and_true, if_true, if_false, List.length_cons, List.length_nil, List.length_map, ↓srt_ref, ↓srt_pL, Nat.add_zero, Nat.zero_add, List.nil_append, List.cons_append, List.zip_cons_cons, List.zip_nil_left, List.zip_nil_right, List.foldl_cons, List.foldl_nil, ne_eq, not_true_eq_false, not_false_eq_true, reduceCtorEq, Bool.true_eq_false, Bool.false_eq_true, Bool.not_true, Bool.not_false, Bool.not_not, Nat.reduceAdd, sizeLine_eq, Nat.reduceLeDiff, cast_lit, Int.reduceEq, Int.reduceLT, Int.reduceLE, Int.reduceNeg])
local macro_rules   | `(tactic| walk_at "dec") => `(tactic| (repeat' split) <;> first | exact (decide_eq_true (by omega)).symm | exact (decide_eq_false (by omega)).symm | exact decide_eq_decide.mpr (by omega) | exact decide_eq_true (by omega) | exact decide_eq_false (by omega)) 
abbrev sGo : Str := "go"
abbrev sTest : Str := "test"
/-- a drawn row at its place -/
def RowAt (mx : Int) (L : List Pr2) (many : Int) (na : Nat) (size : Nat) (i : Int) (r : Row) : Prop :=
  (i ∈ L.map (·.1) ∧ ∃ n, r = (sCount, [n]) ∧ 1 ≤ n ∧ n ≤ mx) ∨
  (i ∉ L.map (·.1) ∧ ∃ f, (f, i) ∈ L ∧ r = (sAgain, [f + 1])) ∨
  (i ∉ L.map (·.1) ∧ i ∉ L.map (·.2) ∧ ((∃ t : Int, i < t ∧ t < size ∧ (∀ q ∈ aroundL L t, q ∈ aroundL L i) ∧ (r = (sGo, [t]) ∨ ∃ a, 0 ≤ a ∧ a < many ∧ r = (sTest, [a, t]))) ∨ PlainR many na r))
structure CodeDrawn (most : Nat) (c : Code) (l : List Pr2) : Prop where
  s3 : 3 ≤ c.rows.length
  s4 : c.rows.length ≤ most
  many1 : 1 ≤ c.many
  many2 : c.many ≤ 4
  asks1 : (c.asks.length : Int) ≤ c.many
  asks2 : c.asks.length ≤ 2
  asks3 : ∀ p ∈ c.asks, 0 ≤ p.1 ∧ p.1 ≤ p.2 ∧ p.2 ≤ 255 ∧ p.2 ≤ p.1 + 2
  shown1 : 0 ≤ c.shown
  shown2 : c.shown ≤ c.many
  sizes1 : c.sizes.length ≤ 2
  sizes2 : ∀ s ∈ c.sizes, 1 ≤ s ∧ s ≤ 6
  loops : LoopsDrawn c.rows.length l
  rows : ∃ R : List Row, c.rows = R ++ [(sEnd, [])] ∧ ∀ (i : Nat) r, R[i]? = some r → RowAt 3 (sort2 l) c.many c.sizes.length c.rows.length (i : Int) r
theorem sort2_len (l : List Pr2) : (sort2 l).length = l.length := by unfold sort2; exact List.length_mergeSort _
theorem sort2_perm (l : List Pr2) : (sort2 l).Perm l := by unfold sort2; exact List.mergeSort_perm l _
theorem sort2_mem {l : List Pr2} {q : Pr2} : q ∈ sort2 l ↔ q ∈ l := (sort2_perm l).mem_iff
section
variable {P : Pg} {st : Sto} {cs : List Cell} {p : List PyData} {r : Nat}
theorem lawCode_w (C : GenP P) {m B most : Nat} {Q : Vl → Sto → Prop} (hm : 2 < m) (hr : st[r]? = some (.lst p)) (hp : Pot B p) (hb : B ≤ 10000000000) (h3 : 3 ≤ most) (h4 : most ≤ 60)
    (h : ∀ c l p', CodeDrawn most c l → Pot (B + 2000) p' → Q (.d c.d) (Stw st r p' [])) : Wp (callN P m "_law_code" [.ref r, .d (.int most)]) st Q := by
  refine C.lawCode.pot (k := 2) hm hr fun m' hm' hl => ?_
  show SWp _ [some (.ref r), some (.d (.int most)), none, none, none, none, none, none, none, none, none, none, none, none, none, none, none, none, none] _ _ _
  unfold b__law_code
  ktr_call hl trivial
  refine take_w C.toCodeP (by omega) hl hp (by omega) (by omega) (by omega) fun sz p1 w0 w1 hp1 => ?_
  ktr_call hl trivial
  refine take_w C.toCodeP (by omega) hl hp1 (by omega) (by omega) (by omega) fun mn p2 g0 g1 hp2 => ?_
  ktr_call hl trivial
  refine take_w C.toCodeP (by omega) hl hp2 (by omega) (by omega) (by omega) fun na p3 o0 o1 hp3 => ?_
  ktr_call hl trivial
  refine ⟨by omega, ?_⟩
  obtain ⟨size, hsize⟩ : ∃ size : Nat, 3 + sz = size := ⟨(3 + sz).toNat, by omega⟩
  rw [hsize]
  have tc := C.toCodeP
  refine sw_forN (wk_r' (C := fun _ => True) (n := na.toNat) rfl) (fun i ρ' st' => ∃ (l : List Pr2) (p' : List PyData) (x5 x6 : Option Vl), st' = Stw st r p' [.lst (l.map pairD)] ∧ ρ' = [some (.ref r), some (.d (.int most)), some (.d (.int size)), some (.d (.int (1 + mn))), some (.ref st.length), x5, x6, none, none, none, none, none, none, none, none, none, none, none, none] ∧ l.length = i ∧ (∀ q ∈ l, 0 ≤ q.1 ∧ q.1 ≤ q.2 ∧ q.2 ≤ 255 ∧ q.2 ≤ q.1 + 2) ∧ Pot (B + 3 + 3 * i) p') (fun _ _ _ _ => trivial) ⟨[], p3, _, _, rfl, rfl, rfl, by simp, hp3.mono (by omega)⟩ (fun i hi ρ' st' hI => ?_) fun ρ' st' hI => ?_
  · obtain ⟨l, p', x5, x6, rfl, rfl, hlen, hall, hp'⟩ := hI
    refine ⟨_, rfl, ?_⟩
    ktr_call hl trivial
    refine take_w tc (by omega) hl hp' (by omega) (by omega) (by omega) fun d1 q1 a0 a1 hq1 => ?_
    ktr_call hl trivial
    refine take_w tc (by omega) hl hq1 (by omega) (by omega) (by omega) fun d2 q2 b0 b1 hq2 => ?_
    obtain ⟨low, hlow, ex⟩ := ix_intsL (l := [0, 1, 254, d1]) (d := d2) b0 (by simpa using b1)
    have low0 : 0 ≤ low ∧ low ≤ 254 := by
      simp only [List.mem_cons, List.not_mem_nil, or_false] at hlow
      omega
    have ex' : ∀ (st : Sto) (Q : Vl → Sto → Prop), OptQ (pIxA2 (.d (.list [.int 0, .int 1, .int 254, .int d1])) (.d (.int d2)) st) Q = Q (.d (.int low)) st := ex
    ktr_call hl ex'
    refine take_w tc (by omega) hl hq2 (by omega) (by omega) (by omega) fun d3 q3 c0 c1 hq3 => ?_
    ktr_call hl trivial
    refine ⟨by omega, l ++ [(low, low + d3)], q3, _, _, by rw [List.map_append]; rfl, rfl, by simp [hlen], fun q hq => ?_, hq3.mono (by omega)⟩
    rcases List.mem_append.mp hq with hq | hq
    · exact hall q hq
    · rw [List.mem_singleton.mp hq]
      dsimp only
      omega
  obtain ⟨asks, p', x5, x6, rfl, rfl, hlen, hall, hp'⟩ := hI
  ktr_call hl trivial
  refine take_w tc (by omega) hl hp' (by omega) (by omega) (by omega) fun ns q1 a0 a1 hq1 => ?_
  ktr_call hl trivial
  refine ⟨by omega, ?_⟩
  refine wp_lcI (wk_r' (C := fun _ => True) (n := ns.toNat) rfl) (fun pre acc st' => ∃ (l : List Int) (p' : List PyData), st' = Stw st r p' [.lst (asks.map pairD)] ∧ acc = l.map .int ∧ l.length = pre.length ∧ (∀ q ∈ l, 1 ≤ q ∧ q ≤ 6) ∧ pre.length ≤ 2 ∧ Pot (B + 3 + 3 * na.toNat + 1 + pre.length) p') (fun _ _ _ _ => trivial) ⟨[], q1, rfl, rfl, rfl, by simp, by simp, hq1.mono (by omega)⟩ (fun pre t post e acc st' hI => ?_) fun acc st' hI => ?_
  · obtain ⟨l, p'', rfl, rfl, hlen2, hall2, hpre, hp''⟩ := hI
    have hpl : pre.length + 1 ≤ 2 := by
      have := congrArg List.length e
      simp at this
      omega
    refine ⟨_, rfl, ?_⟩
    show Wp (ret true) _ _
    rw [wp_ret, if_pos rfl]
    ktr_call hl trivial
    refine take_w tc (by omega) hl hp'' (by omega) (by omega) (by omega) fun d q2 b0 b1 hq2 => ?_
    ktr_call hl trivial
    refine ⟨by omega, l ++ [1 + d], q2, rfl, by rw [List.map_append]; rfl, by simp [hlen2], fun q hq => ?_, by simp; omega, hq2.mono (by simp; omega)⟩
    rcases List.mem_append.mp hq with hq | hq
    · exact hall2 q hq
    · rw [List.mem_singleton.mp hq]
      omega
  obtain ⟨sizes, p'', rfl, rfl, hlen2, hall2, hpre, hp''⟩ := hI
  rw [List.length_range] at hlen2 hpre
  have eT : PyData.tuple (sizes.map .int) = intsT sizes := rfl
  rw [List.length_range] at hp''
  rw [eT]
  ktr_call hl trivial
  refine lawLoops_w C (by omega) (stw_r hl) hp'' (by omega) (show 3 ≤ size by omega) (by omega) fun l q2 hL hq2 => ?_
  ktr_call hl trivial
  refine wp_lcY' (wk_e (enc := pairD) (l := sort2 l) rfl) (fun q => pairD (q.2, q.1)) (by rw [sort2_len]; have := hL.few; omega) (fun t ht => ⟨_, rfl, ?_⟩) ?_
  · ktr_call trivial trivial
    rfl
  have eD : (sort2 l).map (fun q => pairD (q.2, q.1)) = ((sort2 l).map fun q => (q.2, q.1)).map pairD := by rw [List.map_map]; rfl
  rw [eD]
  ktr_call hl (@dict_l)
  refine ⟨by omega, ?_⟩
  have few : (sort2 l).length ≤ 2 := by rw [sort2_len]; exact hL.few
  have ar := fun st row Q => (lawAround_is (st := st) (m := m') (row := row) (l := sort2 l) C (by omega) (by omega)).wp (Q := Q)
  refine sw_forN (wk_r' (C := fun _ => True) (n := size - 1) (by omega)) (fun i ρ' st' => ∃ (R : List Row) (p' : List PyData) (x13 x14 x15 x18 : Option Vl), st' = Stw st r p' [.lst (asks.map pairD), .lst (R.map rowD)] ∧ ρ' = [some (.ref r), some (.d (.int most)), some (.d (.int size)), some (.d (.int (1 + mn))), some (.ref st.length), x5, x6, some (.d (intsT sizes)), some (.d (pairsL (sort2 l))), some (.d (dicI ((sort2 l).map fun q => (q.2, q.1)))), none, none, some (.ref (st.length + 1)), x13, x14, x15, none, none, x18] ∧ R.length = i ∧ (∀ (j : Nat) q, R[j]? = some q → RowAt 3 (sort2 l) (1 + mn) sizes.length size (j : Int) q) ∧ Pot (B + 100 + 20 * i) p') (fun _ _ _ _ => trivial) ⟨[], q2, _, _, _, _, rfl, rfl, rfl, by simp, hq2.mono (by omega)⟩ (fun i hi ρ' st' hI => ?_) fun ρ' st' hI => ?_
  · obtain ⟨R, p', x13, x14, x15, x18, rfl, rfl, hRl, hR, hp'⟩ := hI
    have fin : ∀ (x : Row) (p3 : List PyData) (y13 y14 y15 y18 : Option Vl), RowAt 3 (sort2 l) (1 + mn) sizes.length size (i : Int) x → Pot (B + 100 + 20 * (i + 1)) p3 → (R.map rowD).length < sizeLine ∧ ∃ (R' : List Row) (p' : List PyData) (x13 x14 x15 x18 : Option Vl), Stw st r p3 [.lst (asks.map pairD), .lst (R.map rowD ++ [rowD x])] = Stw st r p' [.lst (asks.map pairD), .lst (R'.map rowD)] ∧ [some (.ref r), some (.d (.int most)), some (.d (.int size)), some (.d (.int (1 + mn))), some (.ref st.length), x5, x6, some (.d (intsT sizes)), some (.d (pairsL (sort2 l))), some (.d (dicI ((sort2 l).map fun q => (q.2, q.1)))), none, none, some (.ref (st.length + 1)), y13, y14, y15, none, none, y18] = [some (.ref r), some (.d (.int most)), some (.d (.int size)), some (.d (.int (1 + mn))), some (.ref st.length), x5, x6, some (.d (intsT sizes)), some (.d (pairsL (sort2 l))), some (.d (dicI ((sort2 l).map fun q => (q.2, q.1)))), none, none, some (.ref (st.length + 1)), x13, x14, x15, none, none, x18] ∧ R'.length = i + 1 ∧ (∀ (j : Nat) q, R'[j]? = some q → RowAt 3 (sort2 l) (1 + mn) sizes.length size (j : Int) q) ∧ Pot (B + 100 + 20 * (i + 1)) p' := fun x p3 y13 y14 y15 y18 hx hp3 => by
      refine ⟨by rw [List.length_map, sizeLine_eq]; omega, R ++ [x], p3, y13, y14, y15, y18, by rw [List.map_append]; rfl, rfl, by simp [hRl], fun j q hj => ?_, hp3⟩
      by_cases hj2 : j < R.length
      · rw [List.getElem?_append_left hj2] at hj
        exact hR j q hj
      · have hj3 : j = i := by
          have := (List.getElem?_eq_some_iff.mp hj).1
          rw [List.length_append, List.length_singleton] at this
          omega
        subst hj3
        rw [List.getElem?_append_right (by omega), hRl, Nat.sub_self] at hj
        simp at hj
        subst hj
        exact hx
    refine ⟨_, rfl, ?_⟩
    ktr_call (And.intro hl ar) trivial
    refine ⟨by omega, ?_⟩
    refine wp_lcP' (wk_rr (a := i + 1) (n := size - (i + 1)) (by omega) (by omega)) (fun k => decide ((aroundL (sort2 l) ((i + 1 + k : Nat) : Int)).filter (fun q => !decide (q ∈ aroundL (sort2 l) i)) = [])) (fun k => .int ((i + 1 + k : Nat) : Int)) (by simp; omega) (fun k hk => ⟨_, rfl, ?_⟩) ?_
    · ktr_call (And.intro hl ar) trivial
      refine wp_lcP' (wk_e (enc := .int) rfl) (fun q => !decide (q ∈ aroundL (sort2 l) i)) (fun q => .int q) (by have := around_len (sort2 l) ((i + 1 + k : Nat) : Int); omega) (fun q hq => ⟨_, rfl, ?_⟩) ?_
      · ktr_call trivial trivial
      ktr_call trivial trivial
    refine wp_lcY' (wk_e (enc := pairD) (l := sort2 l) rfl) (fun q => .int q.1) (by omega) (fun t ht => ⟨_, rfl, ?_⟩) ?_
    · ktr_call trivial trivial
    generalize hA : ((List.range (size - (i + 1))).filter fun k => decide ((aroundL (sort2 l) ((i + 1 + k : Nat) : Int)).filter (fun q => !decide (q ∈ aroundL (sort2 l) i)) = [])) = A
    have eA : PyData.list (A.map fun k => PyData.int ((i + 1 + k : Nat) : Int)) = intsL (A.map fun k => ((i + 1 + k : Nat) : Int)) := by unfold intsL; rw [List.map_map]; rfl
    have eF : PyData.list ((sort2 l).map fun q => PyData.int q.1) = intsL ((sort2 l).map (·.1)) := by unfold intsL; rw [List.map_map]; rfl
    rw [eA, eF]
    ktr_call hl trivial
    have memA : ∀ k ∈ A, k < size - (i + 1) ∧ ∀ q ∈ aroundL (sort2 l) ((i + 1 + k : Nat) : Int), q ∈ aroundL (sort2 l) i := fun k hk => by
      rw [← hA, List.mem_filter, List.mem_range, decide_eq_true_eq, List.filter_eq_nil_iff] at hk
      exact ⟨hk.1, fun q hq => by simpa using hk.2 q hq⟩
    have lastA : size - (i + 1) - 1 ∈ A := by
      rw [← hA, List.mem_filter, List.mem_range, decide_eq_true_eq]
      refine ⟨by omega, ?_⟩
      have : aroundL (sort2 l) ((i + 1 + (size - (i + 1) - 1) : Nat) : Int) = [] := by
        unfold aroundL
        rw [List.map_eq_nil_iff, List.filter_eq_nil_iff]
        intro q hq
        have := hL.inn q (sort2_mem.mp hq)
        simp only [decide_eq_true_eq]
        omega
      rw [this]
      rfl
    have lenA : 0 < A.length := List.length_pos_of_mem lastA
    have lenA2 : A.length ≤ 60 := by
      have := List.length_filter_le (fun k => decide ((aroundL (sort2 l) ((i + 1 + k : Nat) : Int)).filter (fun q => !decide (q ∈ aroundL (sort2 l) i)) = [])) (List.range (size - (i + 1)))
      rw [hA, List.length_range] at this
      omega
    by_cases c1 : (i : Int) ∈ (sort2 l).map fun x => x.1
    · rw [if_pos c1]
      refine take_w tc (by omega) hl hp' (by omega) (by omega) (by omega) fun d q3 b0 b1 hq3 => ?_
      ktr_call hl trivial
      have := fin (sCount, [1 + d]) q3 (some (.d (.int i))) (some (.d (intsL (aroundL (sort2 l) i)))) (some (.d (intsL (A.map fun k => ((i + 1 + k : Nat) : Int))))) x18 (.inl ⟨c1, 1 + d, rfl, by omega, by omega⟩) (hq3.mono (by omega))
      exact ⟨by omega, this.2⟩
    · rw [if_neg c1]
      unfold dicI
      ktr_call hl trivial
      cases e2 : lookK (mergeD [] (((sort2 l).map fun q => (q.2, q.1)).map fun p => ((.inl p.1 : L2.Key), PyData.int p.2))) (.inl (i : Int)) with
      | some v =>
        have := look_some e2
        rw [List.map_map] at this
        obtain ⟨q, hq, e3⟩ := List.mem_map.mp this
        obtain ⟨f, g⟩ := q
        simp only [Function.comp, Prod.mk.injEq, Sum.inl.injEq] at e3
        obtain ⟨rfl, rfl⟩ := e3
        ktr_call hl trivial
        have := fin (sAgain, [f + 1]) p' (some (.d (.int i))) (some (.d (intsL (aroundL (sort2 l) i)))) (some (.d (intsL (A.map fun k => ((i + 1 + k : Nat) : Int))))) x18 (.inr (.inl ⟨c1, f, hq, rfl⟩)) (hp'.mono (by omega))
        exact ⟨by omega, this.2⟩
      | none =>
        have c2 : (i : Int) ∉ (sort2 l).map (·.2) := fun hc => by
          obtain ⟨q, hq, e3⟩ := List.mem_map.mp hc
          refine look_none e2 (.inl q.2, .int q.1) ?_ (by rw [e3])
          rw [List.map_map]
          exact List.mem_map.mpr ⟨q, hq, rfl⟩
        ktr_call hl trivial
        refine take_w tc (by omega) hl hp' (by omega) (by omega) (by omega) fun d0 q3 b0 b1 hq3 => ?_
        ktr_call hl trivial
        by_cases c3 : d0 = 0
        · rw [if_pos c3]
          ktr_call hl trivial
          refine take_w tc (by omega) hl hq3 (by omega) (by omega) (by omega) fun d1 q4 e0 e1 hq4 => ?_
          ktr_call hl trivial
          refine take_w tc (by omega) hl hq4 (by omega) (by omega) (by omega) fun d2 q5 f0 f1 hq5 => ?_
          ktr_call hl trivial
          refine take_w tc (by omega) hl hq5 (by omega) (by omega) (by omega) fun d3 q6 g0 g1 hq6 => ?_
          obtain ⟨k, hk, ex1⟩ := ix_intsL (l := [d1, d2]) (d := d3) g0 (by simpa using g1)
          have k0 : 0 ≤ k ∧ k < A.length := by
            simp only [List.mem_cons, List.not_mem_nil, or_false] at hk
            omega
          obtain ⟨to, hto, ex2⟩ := ix_intsL (l := A.map fun k => ((i + 1 + k : Nat) : Int)) (d := k) k0.1 (by rw [List.length_map]; exact k0.2)
          obtain ⟨k2, hk2, rfl⟩ := List.mem_map.mp hto
          obtain ⟨m1, m2⟩ := memA k2 hk2
          have ex1' : ∀ (st : Sto) (Q : Vl → Sto → Prop), OptQ (pIxA2 (.d (.list [.int d1, .int d2])) (.d (.int d3)) st) Q = Q (.d (.int k)) st := ex1
          ktr_call (And.intro hl ex1') ex2
          refine take_w tc (by omega) hl hq6 (by omega) (by omega) (by omega) fun a1 q7 i0 i1 hq7 => ?_
          ktr_call hl trivial
          refine take_w tc (by omega) hl hq7 (by omega) (by omega) (by omega) fun a2 q8 j0 j1 hq8 => ?_
          ktr_call hl trivial
          refine ⟨by decide, ?_⟩
          have jmp : ∀ x : Row, (x = (sGo, [((i + 1 + k2 : Nat) : Int)]) ∨ ∃ a, 0 ≤ a ∧ a < 1 + mn ∧ x = (sTest, [a, ((i + 1 + k2 : Nat) : Int)])) → RowAt 3 (sort2 l) (1 + mn) sizes.length size (i : Int) x := fun x hx => .inr (.inr ⟨c1, c2, .inl ⟨((i + 1 + k2 : Nat) : Int), by omega, by omega, m2, hx⟩⟩)
          rcases (show a2 / 3 = 0 ∨ a2 / 3 = 1 by omega) with e | e <;> rw [e] <;> ktr_call hl trivial
          · have := fin (sTest, [a1, ((i + 1 + k2 : Nat) : Int)]) q8 (some (.d (.int i))) (some (.d (intsL (aroundL (sort2 l) i)))) (some (.d (intsL (A.map fun k => ((i + 1 + k : Nat) : Int))))) (some (.d (.int ((i + 1 + k2 : Nat) : Int)))) (jmp _ (.inr ⟨a1, i0, i1, rfl⟩)) (hq8.mono (by omega))
            exact ⟨by omega, this.2⟩
          · have := fin (sGo, [((i + 1 + k2 : Nat) : Int)]) q8 (some (.d (.int i))) (some (.d (intsL (aroundL (sort2 l) i)))) (some (.d (intsL (A.map fun k => ((i + 1 + k : Nat) : Int))))) (some (.d (.int ((i + 1 + k2 : Nat) : Int)))) (jmp _ (.inl rfl)) (hq8.mono (by omega))
            exact ⟨by omega, this.2⟩
        · rw [if_neg c3]
          ktr_call hl trivial
          refine lawPlain_w C (by omega) (stw_r hl) hq3 (by omega) (by omega) (by omega) (by omega) fun x q4 hx hq4 => ?_
          ktr_call hl trivial
          have := fin x q4 (some (.d (.int i))) (some (.d (intsL (aroundL (sort2 l) i)))) (some (.d (intsL (A.map fun k => ((i + 1 + k : Nat) : Int))))) x18 (.inr (.inr ⟨c1, c2, .inr hx⟩)) (hq4.mono (by omega))
          exact ⟨by omega, this.2⟩
  · obtain ⟨R, p', x13, x14, x15, x18, rfl, rfl, hRl, hR, hp'⟩ := hI
    ktr_call hl trivial
    refine take_w tc (by omega) hl hp' (by omega) (by omega) (by omega) fun sh q3 b0 b1 hq3 => ?_
    ktr_call hl trivial
    refine ⟨by omega, ?_⟩
    have eR : PyData.tuple (R.map rowD ++ [.tuple [.str "end"]]) = rowsD (R ++ [(sEnd, [])]) := by unfold rowsD; rw [List.map_append]; rfl
    rw [eR]
    have hlen3 : (R ++ [((sEnd, []) : Row)]).length = size := by simp; omega
    exact h ⟨asks, 1 + mn, sh, sizes, R ++ [(sEnd, [])]⟩ l q3
      ⟨by dsimp only; omega, by dsimp only; omega, by dsimp only; omega, by dsimp only; omega, by dsimp only; omega, by dsimp only; omega, hall, b0, by dsimp only; omega, by dsimp only; omega, hall2, by rw [hlen3]; exact hL, R, rfl, by rw [hlen3]; exact hR⟩ (hq3.mono (by omega))
end
end Iv
set_option Elab.async false
set_option linter.all false
set_option maxRecDepth 100000
set_option maxHeartbeats 4000000
/-! Wd1: drawn codes are codes (plain mathematics). -/
namespace Iv
open PySem
theorem sorted_ext {α : Type} {lt : α → α → Prop} (asymm : ∀ a b, lt a b → ¬ lt b a) : ∀ {l1 l2 : List α}, l1.Pairwise lt → l2.Pairwise lt → (∀ x, x ∈ l1 ↔ x ∈ l2) → l1 = l2
  | [], [], _, _, _ => rfl
  | [], b :: l2, _, _, h => by have := (h b).mpr (by simp); simp at this
  | a :: l1, [], _, _, h => by have := (h a).mp (by simp); simp at this
  | a :: l1, b :: l2, h1, h2, h => by
    rw [List.pairwise_cons] at h1 h2
    have irr : ∀ x, ¬ lt x x := fun x hx => asymm x x hx hx
    have ab : a = b := by
      rcases List.mem_cons.mp ((h a).mp (by simp)) with e | e
      · exact e
      · rcases List.mem_cons.mp ((h b).mpr (by simp)) with e' | e'
        · exact e'.symm
        · exact absurd (h1.1 b e') (asymm _ _ (h2.1 a e))
    subst ab
    congr 1
    refine sorted_ext asymm h1.2 h2.2 fun x => ⟨fun hx => ?_, fun hx => ?_⟩
    · rcases List.mem_cons.mp ((h x).mp (by simp [hx])) with e | e
      · subst e; exact absurd (h1.1 x hx) (irr x)
      · exact e
    · rcases List.mem_cons.mp ((h x).mpr (by simp [hx])) with e | e
      · subst e; exact absurd (h2.1 x hx) (irr x)
      · exact e
theorem pairwise_mem {α : Type} {R : α → α → Prop} (sym : ∀ a b, R a b → R b a) : ∀ {l : List α}, l.Pairwise R → ∀ p ∈ l, ∀ q ∈ l, p = q ∨ R p q
  | [], _, p, hp, _, _ => by cases hp
  | a :: l, h, p, hp, q, hq => by
    rw [List.pairwise_cons] at h
    rcases List.mem_cons.mp hp with e1 | hp'
    · rcases List.mem_cons.mp hq with e2 | hq'
      · exact .inl (e1.trans e2.symm)
      · rw [e1]; exact .inr (h.1 q hq')
    · rcases List.mem_cons.mp hq with e2 | hq'
      · rw [e2]; exact .inr (sym _ _ (h.1 p hp'))
      · exact pairwise_mem sym h.2 p hp' q hq'
theorem apart2_sym (p q : Pr2) (h : apart2 p q) : apart2 q p := by unfold apart2 at *; omega
def lt2 (p q : Pr2) : Prop := p.1 < q.1 ∨ (p.1 = q.1 ∧ p.2 < q.2)
theorem lt2_asymm (a b : Pr2) (h : lt2 a b) : ¬ lt2 b a := by unfold lt2 at *; omega
theorem lt2_of {p q : Pr2} (h : le2 p q = true) (n : p ≠ q) : lt2 p q := by
  unfold le2 at h
  unfold lt2
  rw [decide_eq_true_eq] at h
  obtain ⟨a, b⟩ := p
  obtain ⟨c, d⟩ := q
  have n' : ¬ (a = c ∧ b = d) := fun e => n (by rw [e.1, e.2])
  dsimp only at h ⊢
  omega
theorem sort2_sorted (l : List Pr2) : (sort2 l).Pairwise fun p q => le2 p q = true := by
  unfold sort2
  exact List.pairwise_mergeSort (fun a b c => le2_trans a b c) (fun a b => le2_total a b) l
theorem sort2_strict {l : List Pr2} (h : l.Nodup) : (sort2 l).Pairwise lt2 := by
  have nd : (sort2 l).Nodup := (sort2_perm l).nodup_iff.mpr h
  refine List.Pairwise.imp₂ (R := fun p q => le2 p q = true) (S := fun p q => p ≠ q) (fun a b h1 h2 => lt2_of h1 h2) (sort2_sorted l) nd
theorem apart2_ne {p : Pr2} (h : p.1 < p.2) : ¬ apart2 p p := by unfold apart2; omega
theorem drawn_nodup {size : Int} {l : List Pr2} (h : LoopsDrawn size l) : l.Nodup := by
  refine List.Pairwise.imp_of_mem (R := apart2) (fun {a b} ha hb hab e => ?_) h.ap
  subst e
  exact apart2_ne (h.inn _ ha).2.1 hab
theorem posL_mem {w : Str} {rows : List Row} {x : Int} : x ∈ posL w rows ↔ ∃ (i : Nat) (r : Row), rows[i]? = some r ∧ r.1 = w ∧ x = i := by
  unfold posL
  simp only [List.mem_map, List.mem_filter, decide_eq_true_eq]
  constructor
  · rintro ⟨⟨r, i⟩, ⟨h1, h2⟩, rfl⟩
    exact ⟨i, r, (List.mem_zipIdx_iff_getElem?.mp h1), h2, rfl⟩
  · rintro ⟨i, r, h1, h2, rfl⟩
    exact ⟨(r, i), ⟨List.mem_zipIdx_iff_getElem?.mpr h1, h2⟩, rfl⟩
theorem zipIdx_strict (rows : List Row) : rows.zipIdx.Pairwise fun p q => p.2 < q.2 := by
  rw [List.pairwise_iff_getElem]
  intro i j hi hj hij
  simp
  omega
theorem posL_strict (w : Str) (rows : List Row) : (posL w rows).Pairwise (· < ·) := by
  unfold posL
  rw [List.pairwise_map]
  refine ((zipIdx_strict rows).filter _).imp fun {a b} h => ?_
  omega
theorem agL_mem {rows : List Row} {p : Pr2} : p ∈ agL rows ↔ ∃ (i : Nat) (r : Row), rows[i]? = some r ∧ r.1 = sAgain ∧ p = (r.2.headD 0 - 1, (i : Int)) := by
  unfold agL
  simp only [List.mem_map, List.mem_filter, decide_eq_true_eq]
  constructor
  · rintro ⟨⟨r, i⟩, ⟨h1, h2⟩, rfl⟩
    exact ⟨i, r, (List.mem_zipIdx_iff_getElem?.mp h1), h2, rfl⟩
  · rintro ⟨i, r, h1, h2, rfl⟩
    exact ⟨(r, i), ⟨List.mem_zipIdx_iff_getElem?.mpr h1, h2⟩, rfl⟩
theorem agL_nodup (rows : List Row) : (agL rows).Nodup := by
  unfold agL
  refine List.Pairwise.map _ (R := fun p q : Row × Nat => p.2 < q.2) (fun a b h e => ?_) ((zipIdx_strict rows).filter _)
  have := congrArg Prod.snd e
  dsimp only at this
  omega
section
variable {c : Code} {l : List Pr2}
/-- a code by its loops -/
structure CodeBy (c : Code) (l : List Pr2) : Prop where
  s4 : c.rows.length ≤ 60
  many1 : 1 ≤ c.many
  many2 : c.many ≤ 16
  asks0 : c.asks.length ≤ 3
  asks1 : (c.asks.length : Int) ≤ c.many
  asks2 : ∀ p ∈ c.asks, 0 ≤ p.1 ∧ p.1 ≤ p.2 ∧ p.2 ≤ 255
  shown1 : 0 ≤ c.shown
  shown2 : c.shown ≤ c.many
  sizes1 : c.sizes.length ≤ 2
  sizes2 : ∀ s ∈ c.sizes, 1 ≤ s ∧ s ≤ 6
  inn : ∀ p ∈ l, 0 ≤ p.1 ∧ p.1 < p.2 ∧ p.2 < (c.rows.length : Int) - 1
  ap : l.Pairwise apart2
  deep : ∀ i : Nat, (aroundL (sort2 l) i).length ≤ 2
  rows : ∃ R : List Row, c.rows = R ++ [(sEnd, [])] ∧ ∀ (i : Nat) r, R[i]? = some r → RowAt 6 (sort2 l) c.many c.sizes.length c.rows.length (i : Int) r
theorem CodeBy.nodup (h : CodeBy c l) : l.Nodup := by
  refine List.Pairwise.imp_of_mem (R := apart2) (fun {a b} ha hb hab e => ?_) h.ap
  subst e
  exact apart2_ne (h.inn _ ha).2.1 hab
theorem CodeBy.two (h : CodeBy c l) {p q : Pr2} (hp : p ∈ l) (hq : q ∈ l) : p = q ∨ apart2 p q := pairwise_mem apart2_sym h.ap p hp q hq
/-- a row and what it is -/
theorem CodeBy.row (h : CodeBy c l) {i : Nat} {r : Row} (e : c.rows[i]? = some r) : (i + 1 < c.rows.length ∧ RowAt 6 (sort2 l) c.many c.sizes.length c.rows.length (i : Int) r) ∨ (i + 1 = c.rows.length ∧ r = (sEnd, [])) := by
  obtain ⟨R, e1, e2⟩ := h.rows
  have hl : c.rows.length = R.length + 1 := by rw [e1]; simp
  by_cases hi : i < R.length
  · have : R[i]? = some r := by rw [e1, List.getElem?_append_left hi] at e; exact e
    exact .inl ⟨by omega, e2 i r this⟩
  · have hi2 : i = R.length := by
      have := (List.getElem?_eq_some_iff.mp e).1
      omega
    subst hi2
    rw [e1, List.getElem?_append_right (Nat.le_refl _), Nat.sub_self] at e
    simp at e
    exact .inr ⟨by omega, e.symm⟩
theorem ne_ca : sCount ≠ sAgain := by simp only [sCount, sAgain, ne_eq, ofS_inj]; decide
theorem ne_ce : sCount ≠ sEnd := by simp only [sCount, sEnd, ne_eq, ofS_inj]; decide
theorem ne_ae : sAgain ≠ sEnd := by simp only [sEnd, sAgain, ne_eq, ofS_inj]; decide
theorem ne_cg : sCount ≠ sGo := by simp only [sCount, sGo, ne_eq, ofS_inj]; decide
theorem ne_ct : sCount ≠ sTest := by simp only [sCount, sTest, ne_eq, ofS_inj]; decide
theorem ne_ag : sAgain ≠ sGo := by simp only [sAgain, sGo, ne_eq, ofS_inj]; decide
theorem ne_at : sAgain ≠ sTest := by simp only [sAgain, sTest, ne_eq, ofS_inj]; decide
theorem ne_eg : sEnd ≠ sGo := by simp only [sEnd, sGo, ne_eq, ofS_inj]; decide
theorem ne_et : sEnd ≠ sTest := by simp only [sEnd, sTest, ne_eq, ofS_inj]; decide
/-- which rows are counts, agains, jumps, ends -/
theorem CodeBy.again (h : CodeBy c l) {i : Nat} {r : Row} (e : c.rows[i]? = some r) (w : r.1 = sAgain) : ∃ f, (f, (i : Int)) ∈ l ∧ r = (sAgain, [f + 1]) := by
  rcases h.row e with ⟨hi, ⟨_, n, rfl, _⟩ | ⟨_, f, h1, h2⟩ | ⟨_, _, ⟨t, _, _, _, rfl | ⟨a, _, _, rfl⟩⟩ | hp⟩⟩ | ⟨_, rfl⟩
  · exact absurd w ne_ca
  · exact ⟨f, sort2_mem.mp h1, h2⟩
  · exact absurd w.symm ne_ag
  · exact absurd w.symm ne_at
  · exact absurd w hp.2.2.1
  · exact absurd w.symm ne_ae
theorem CodeBy.count (h : CodeBy c l) {i : Nat} {r : Row} (e : c.rows[i]? = some r) (w : r.1 = sCount) : (∃ g, ((i : Int), g) ∈ l) ∧ ∃ n, r = (sCount, [n]) ∧ 1 ≤ n ∧ n ≤ 6 := by
  rcases h.row e with ⟨hi, ⟨h1, n, rfl, h2⟩ | ⟨_, f, h1, rfl⟩ | ⟨_, _, ⟨t, _, _, _, rfl | ⟨a, _, _, rfl⟩⟩ | hp⟩⟩ | ⟨_, rfl⟩
  · obtain ⟨q, hq, e⟩ := List.mem_map.mp h1
    exact ⟨⟨q.2, by rw [← e]; exact sort2_mem.mp hq⟩, n, rfl, h2⟩
  · exact absurd w.symm ne_ca
  · exact absurd w.symm ne_cg
  · exact absurd w.symm ne_ct
  · exact absurd w hp.2.1
  · exact absurd w.symm ne_ce
theorem CodeBy.at_first (h : CodeBy c l) {p : Pr2} (hp : p ∈ l) : ∃ (i : Nat) (r : Row), p.1 = i ∧ c.rows[i]? = some r ∧ r.1 = sCount := by
  obtain ⟨h0, h1, h2⟩ := h.inn p hp
  have hi : p.1.toNat < c.rows.length := by omega
  refine ⟨p.1.toNat, c.rows[p.1.toNat], by omega, List.getElem?_eq_getElem hi, ?_⟩
  have e : ((p.1.toNat : Nat) : Int) = p.1 := by omega
  rcases h.row (List.getElem?_eq_getElem hi) with ⟨_, ⟨_, n, h3, _⟩ | ⟨h3, _⟩ | ⟨h3, _⟩⟩ | ⟨h3, _⟩
  · rw [h3]
  · exact absurd (List.mem_map.mpr ⟨p, sort2_mem.mpr hp, e.symm⟩) h3
  · exact absurd (List.mem_map.mpr ⟨p, sort2_mem.mpr hp, e.symm⟩) h3
  · omega
theorem CodeBy.at_last (h : CodeBy c l) {p : Pr2} (hp : p ∈ l) : ∃ (i : Nat), p.2 = i ∧ c.rows[i]? = some (sAgain, [p.1 + 1]) := by
  obtain ⟨h0, h1, h2⟩ := h.inn p hp
  have hi : p.2.toNat < c.rows.length := by omega
  refine ⟨p.2.toNat, by omega, ?_⟩
  rw [List.getElem?_eq_getElem hi]
  have e : ((p.2.toNat : Nat) : Int) = p.2 := by omega
  rcases h.row (List.getElem?_eq_getElem hi) with ⟨_, ⟨h3, _⟩ | ⟨_, f, h3, h4⟩ | ⟨_, h3, _⟩⟩ | ⟨h3, _⟩
  · obtain ⟨q, hq, e3⟩ := List.mem_map.mp h3
    have hq' := sort2_mem.mp hq
    have := h.inn q hq'
    rcases h.two hp hq' with e4 | e4
    · subst e4; omega
    · unfold apart2 at e4; omega
  · have hq' := sort2_mem.mp h3
    have := h.inn _ hq'
    rcases h.two hp hq' with e4 | e4
    · rw [h4, show f = p.1 by rw [e4]]
    · unfold apart2 at e4; dsimp only at e4 this; omega
  · exact absurd (List.mem_map.mpr ⟨p, sort2_mem.mpr hp, e.symm⟩) h3
  · omega
theorem CodeBy.loopsL (h : CodeBy c l) : c.loops = sort2 l := by
  refine sorted_ext lt2_asymm (sort2_strict (agL_nodup _)) (sort2_strict h.nodup) fun p => ?_
  show p ∈ sort2 (agL c.rows) ↔ p ∈ sort2 l
  rw [sort2_mem, sort2_mem, agL_mem]
  constructor
  · rintro ⟨i, r, e, w, rfl⟩
    obtain ⟨f, h1, rfl⟩ := h.again e w
    simpa using h1
  · intro hp
    obtain ⟨i, e1, e2⟩ := h.at_last hp
    exact ⟨i, _, e2, rfl, by obtain ⟨a, b⟩ := p; dsimp only at e1 ⊢; subst e1; simp⟩
theorem CodeBy.ok (h : CodeBy c l) : c.Ok := by
  have hL := h.loopsL
  have s3 : 1 ≤ c.rows.length := by
    obtain ⟨R, e, _⟩ := h.rows
    rw [e]
    simp
  have s4 := h.s4
  have m1 := h.many1
  have m2 := h.many2
  have a1 := h.asks1
  have hlen : c.loops.length ≤ 1000 := by
    have e : c.loops.map (·.1) = posL sCount c.rows := by
      refine sorted_ext (lt := (· < ·)) (fun a b h => by omega) ?_ (posL_strict _ _) fun x => ?_
      · rw [hL, List.pairwise_map]
        refine List.Pairwise.imp_of_mem (fun {a b} ha hb hab => ?_) (sort2_strict h.nodup)
        have ha' := sort2_mem.mp ha
        have hb' := sort2_mem.mp hb
        have := h.inn _ ha'
        have := h.inn _ hb'
        unfold lt2 at hab
        rcases h.two ha' hb' with e | e
        · subst e; omega
        · unfold apart2 at e; omega
      · rw [posL_mem, hL]
        constructor
        · intro hx
          obtain ⟨p, hp, rfl⟩ := List.mem_map.mp hx
          obtain ⟨i, r, e1, e2, e3⟩ := h.at_first (sort2_mem.mp hp)
          exact ⟨i, r, e2, e3, e1⟩
        · rintro ⟨i, r, e, w, rfl⟩
          obtain ⟨⟨g, hg⟩, _⟩ := h.count e w
          exact List.mem_map.mpr ⟨_, sort2_mem.mpr hg, rfl⟩
    have e2 := congrArg List.length e
    rw [List.length_map] at e2
    rw [e2]
    unfold posL
    rw [List.length_map]
    have := List.length_filter_le (fun q : Row × Nat => decide (q.1.1 = sCount)) c.rows.zipIdx
    rw [List.length_zipIdx] at this
    omega
  have firsts : (c.loops.map (·.1)).Pairwise (· < ·) := by
    rw [hL, List.pairwise_map]
    refine List.Pairwise.imp_of_mem (fun {a b} ha hb hab => ?_) (sort2_strict h.nodup)
    have ha' := sort2_mem.mp ha
    have hb' := sort2_mem.mp hb
    have := h.inn _ ha'
    have := h.inn _ hb'
    unfold lt2 at hab
    rcases h.two ha' hb' with e | e
    · subst e; omega
    · unfold apart2 at e; omega
  refine ⟨h.asks0, h.asks2, m1, a1, m2, h.shown1, h.shown2, h.sizes1, h.sizes2, s3, s4, fun r hr => ?_, ?_, ?_, ?_⟩
  · obtain ⟨i, hi, e⟩ := List.mem_iff_getElem.mp hr
    have e' : c.rows[i]? = some r := by rw [List.getElem?_eq_getElem hi, e]
    rcases h.row e' with ⟨hi2, ⟨h1, n, rfl, h2⟩ | ⟨_, f, h1, rfl⟩ | ⟨_, _, ⟨t, h3, h4, _, rfl | ⟨a, h5, h6, rfl⟩⟩ | hp⟩⟩ | ⟨_, rfl⟩
    · exact row_count (by omega)
    · have := h.inn _ (sort2_mem.mp h1)
      dsimp only at this
      exact row_again (by omega)
    · exact row_go (by omega)
    · exact row_test (by omega)
    · exact hp.1 _
    · exact row_end
  · refine sorted_ext (lt := (· < ·)) (fun a b h => by omega) (posL_strict _ _) (by simp) fun x => ?_
    rw [posL_mem, List.mem_singleton]
    constructor
    · rintro ⟨i, r, e, w, rfl⟩
      rcases h.row e with ⟨hi2, ⟨h1, n, rfl, h2⟩ | ⟨_, f, h1, rfl⟩ | ⟨_, _, ⟨t, h3, h4, _, rfl | ⟨a, h5, h6, rfl⟩⟩ | hp⟩⟩ | ⟨h1, rfl⟩
      · exact absurd w ne_ce
      · exact absurd w ne_ae
      · exact absurd w.symm ne_eg
      · exact absurd w.symm ne_et
      · exact absurd w hp.2.2.2.2.2
      · omega
    · rintro rfl
      have hi : c.rows.length - 1 < c.rows.length := by omega
      refine ⟨c.rows.length - 1, c.rows[c.rows.length - 1], List.getElem?_eq_getElem hi, ?_, by omega⟩
      rcases h.row (List.getElem?_eq_getElem hi) with ⟨h1, _⟩ | ⟨_, h1⟩
      · omega
      · rw [h1]
  · refine ⟨hlen, by rw [hL]; exact sort2_sorted l, ?_, fun p hp => ?_, ?_, fun i hi => by rw [hL]; exact h.deep i⟩
    · refine sorted_ext (lt := (· < ·)) (fun a b h => by omega) (posL_strict _ _) firsts fun x => ?_
      rw [posL_mem, hL]
      constructor
      · rintro ⟨i, r, e, w, rfl⟩
        obtain ⟨⟨g, hg⟩, _⟩ := h.count e w
        exact List.mem_map.mpr ⟨_, sort2_mem.mpr hg, rfl⟩
      · intro hx
        obtain ⟨p, hp, rfl⟩ := List.mem_map.mp hx
        obtain ⟨i, r, e1, e2, e3⟩ := h.at_first (sort2_mem.mp hp)
        exact ⟨i, r, e2, e3, e1⟩
    · rw [hL] at hp
      exact (h.inn p (sort2_mem.mp hp)).2.1
    · rw [hL]
      refine List.Pairwise.imp_of_mem (fun {a b} ha hb hab => ?_) (sort2_strict h.nodup)
      have ha' := sort2_mem.mp ha
      have hb' := sort2_mem.mp hb
      have := h.inn _ ha'
      have := h.inn _ hb'
      unfold lt2 at hab
      unfold apartB
      rw [decide_eq_true_eq]
      rcases h.two ha' hb' with e | e
      · subst e; omega
      · unfold apart2 at e; omega
  · intro q hq w
    obtain ⟨r, i⟩ := q
    have e := List.mem_zipIdx_iff_getElem?.mp hq
    rw [hL]
    rcases h.row e with ⟨hi2, ⟨h1, n, rfl, h2⟩ | ⟨_, f, h1, rfl⟩ | ⟨_, _, ⟨t, h3, h4, h7, rfl | ⟨a, h5, h6, rfl⟩⟩ | hp⟩⟩ | ⟨_, rfl⟩
    · rcases w with w | w
      · exact absurd w ne_ct
      · exact absurd w ne_cg
    · rcases w with w | w
      · exact absurd w ne_at
      · exact absurd w ne_ag
    · exact ⟨t, rfl, h3, h7⟩
    · exact ⟨t, rfl, h3, h7⟩
    · rcases w with w | w
      · exact absurd w hp.2.2.2.1
      · exact absurd w hp.2.2.2.2.1
    · rcases w with w | w
      · exact absurd w ne_et
      · exact absurd w ne_eg
theorem CodeDrawn.by_ {most : Nat} (h : CodeDrawn most c l) (hm : most ≤ 60) : CodeBy c l := by
  have s4 := h.s4
  have m2 := h.many2
  have a2 := h.asks2
  refine ⟨by omega, h.many1, by omega, by omega, h.asks1, fun p hp => ⟨(h.asks3 p hp).1, (h.asks3 p hp).2.1, (h.asks3 p hp).2.2.1⟩, h.shown1, h.shown2, h.sizes1, h.sizes2, h.loops.inn, h.loops.ap, fun i => Nat.le_trans (around_len _ _) (by rw [sort2_len]; exact h.loops.few), ?_⟩
  obtain ⟨R, e1, e2⟩ := h.rows
  refine ⟨R, e1, fun i r hr => ?_⟩
  rcases e2 i r hr with ⟨h1, n, h2, h3, h4⟩ | h1 | h1
  · exact .inl ⟨h1, n, h2, h3, by omega⟩
  · exact .inr (.inl h1)
  · exact .inr (.inr h1)
end
end Iv
set_option Elab.async false
set_option linter.all false
set_option maxRecDepth 100000
set_option maxHeartbeats 4000000
/-! Wd2: rows put one behind another, loop by loop. -/
namespace Iv
open PySem
abbrev sRest : Str := "rest"
def cntL (l : List Pr2) (i : Int) : Nat := (l.filter fun p => decide (p.1 < i ∧ i ≤ p.2)).length
theorem cntL_append (l l' : List Pr2) (i : Int) : cntL (l ++ l') i = cntL l i + cntL l' i := by
  unfold cntL
  rw [List.filter_append, List.length_append]
theorem cntL_zero {l : List Pr2} {i : Int} (h : ∀ p ∈ l, ¬ (p.1 < i ∧ i ≤ p.2)) : cntL l i = 0 := by
  unfold cntL
  rw [List.length_eq_zero_iff, List.filter_eq_nil_iff]
  intro p hp
  simpa using h p hp
def RowB (l : List Pr2) (e i : Int) (r : Row) : Prop :=
  (i ∈ l.map (·.1) ∧ ∃ n, r = (sCount, [n]) ∧ 1 ≤ n ∧ n ≤ 6) ∨
  (i ∉ l.map (·.1) ∧ ∃ f, (f, i) ∈ l ∧ r = (sAgain, [f + 1])) ∨
  (i ∉ l.map (·.1) ∧ i ∉ l.map (·.2) ∧ (r = (sRest, []) ∨ ∃ t, i < t ∧ t ≤ e ∧ (∀ q ∈ l, q.1 < t → t ≤ q.2 → q.1 < i ∧ i ≤ q.2) ∧ r = (sGo, [t])))
structure Blk (d : Nat) (a : Nat) (X : List Row) (l : List Pr2) : Prop where
  inn : ∀ p ∈ l, (a : Int) ≤ p.1 ∧ p.1 < p.2 ∧ p.2 < a + X.length
  ap : l.Pairwise apart2
  deep : ∀ i : Int, cntL l i ≤ d
  rows : ∀ (j : Nat) r, X[j]? = some r → RowB l (a + X.length) ((a + j : Nat) : Int) r
theorem Blk.mono {d d' a : Nat} {X : List Row} {l : List Pr2} (h : Blk d a X l) (hd : d ≤ d') : Blk d' a X l := ⟨h.inn, h.ap, fun i => Nat.le_trans (h.deep i) hd, h.rows⟩
theorem Blk.nil {d a : Nat} : Blk d a [] [] := ⟨fun _ h => (nomatch h), .nil, fun i => by simp [cntL], fun j r h => by simp at h⟩
theorem Blk.rest {d a : Nat} : Blk d a [(sRest, [])] [] := by
  refine ⟨fun _ h => (nomatch h), .nil, fun i => by simp [cntL], fun j r h => ?_⟩
  have hj : j = 0 := by
    have := (List.getElem?_eq_some_iff.mp h).1
    simpa using this
  subst hj
  simp at h
  exact .inr (.inr ⟨by simp, by simp, .inl h.symm⟩)
/-- a count, its again -/
theorem Blk.pair {d a : Nat} {n : Int} (hd : 1 ≤ d) (h1 : 1 ≤ n) (h2 : n ≤ 6) : Blk d a [(sCount, [n]), (sAgain, [(a : Int) + 1])] [((a : Int), (a : Int) + 1)] := by
  refine ⟨fun p hp => ?_, by simp, fun i => ?_, fun j r h => ?_⟩
  · rw [List.mem_singleton.mp hp]
    simp only [List.length_cons, List.length_nil]
    omega
  · refine Nat.le_trans ?_ hd
    exact List.length_filter_le _ _
  · match j, h with
    | 0, h =>
      simp at h
      exact .inl ⟨by simp, n, h.symm, h1, h2⟩
    | 1, h =>
      simp at h
      exact .inr (.inl ⟨by simp; omega, a, by simp, h.symm⟩)
    | j + 2, h => simp at h
theorem Blk.append {d a : Nat} {X Y : List Row} {l l' : List Pr2} (h : Blk d a X l) (h' : Blk d (a + X.length) Y l') : Blk d a (X ++ Y) (l ++ l') := by
  have inn' : ∀ p ∈ l', ((a + X.length : Nat) : Int) ≤ p.1 ∧ p.1 < p.2 ∧ p.2 < ((a + X.length : Nat) : Int) + Y.length := h'.inn
  refine ⟨fun p hp => ?_, ?_, fun i => ?_, fun j r hj => ?_⟩
  · rw [List.length_append]
    rcases List.mem_append.mp hp with hp | hp
    · have := h.inn p hp; omega
    · have := inn' p hp; omega
  · rw [List.pairwise_append]
    refine ⟨h.ap, h'.ap, fun p hp q hq => ?_⟩
    have := h.inn p hp
    have := inn' q hq
    unfold apart2
    omega
  · rw [cntL_append]
    by_cases hi : i < ((a + X.length : Nat) : Int)
    · rw [cntL_zero (l := l') fun p hp => by have := inn' p hp; omega]
      exact h.deep i
    · rw [cntL_zero (l := l) fun p hp => by have := h.inn p hp; omega, Nat.zero_add]
      exact h'.deep i
  · by_cases hj2 : j < X.length
    · rw [List.getElem?_append_left hj2] at hj
      have o1 : ((a + j : Nat) : Int) ∉ l'.map (·.1) := fun hm => by
        obtain ⟨p, hp, e⟩ := List.mem_map.mp hm
        have := inn' p hp
        omega
      have o2 : ((a + j : Nat) : Int) ∉ l'.map (·.2) := fun hm => by
        obtain ⟨p, hp, e⟩ := List.mem_map.mp hm
        have := inn' p hp
        omega
      rcases h.rows j r hj with ⟨m1, m2⟩ | ⟨m1, f, m2, m3⟩ | ⟨m1, m2, m3⟩
      · exact .inl ⟨by rw [List.map_append]; exact List.mem_append_left _ m1, m2⟩
      · exact .inr (.inl ⟨by rw [List.map_append, List.mem_append]; exact fun e => e.elim m1 o1, f, List.mem_append_left _ m2, m3⟩)
      · refine .inr (.inr ⟨by rw [List.map_append, List.mem_append]; exact fun e => e.elim m1 o1, by rw [List.map_append, List.mem_append]; exact fun e => e.elim m2 o2, ?_⟩)
        rcases m3 with m3 | ⟨t, t1, t2, t3, t4⟩
        · exact .inl m3
        · refine .inr ⟨t, t1, by rw [List.length_append]; omega, fun q hq => ?_, t4⟩
          rcases List.mem_append.mp hq with hq | hq
          · exact t3 q hq
          · have := inn' q hq
            intro; omega
    · rw [List.getElem?_append_right (by omega)] at hj
      have ej : a + j = a + X.length + (j - X.length) := by omega
      have o1 : ((a + j : Nat) : Int) ∉ l.map (·.1) := fun hm => by
        obtain ⟨p, hp, e⟩ := List.mem_map.mp hm
        have := h.inn p hp
        omega
      have o2 : ((a + j : Nat) : Int) ∉ l.map (·.2) := fun hm => by
        obtain ⟨p, hp, e⟩ := List.mem_map.mp hm
        have := h.inn p hp
        omega
      have hr := h'.rows (j - X.length) r hj
      rw [← ej] at hr
      rcases hr with ⟨m1, m2⟩ | ⟨m1, f, m2, m3⟩ | ⟨m1, m2, m3⟩
      · exact .inl ⟨by rw [List.map_append]; exact List.mem_append_right _ m1, m2⟩
      · exact .inr (.inl ⟨by rw [List.map_append, List.mem_append]; exact fun e => e.elim o1 m1, f, List.mem_append_right _ m2, m3⟩)
      · refine .inr (.inr ⟨by rw [List.map_append, List.mem_append]; exact fun e => e.elim o1 m1, by rw [List.map_append, List.mem_append]; exact fun e => e.elim o2 m2, ?_⟩)
        rcases m3 with m3 | ⟨t, t1, t2, t3, t4⟩
        · exact .inl m3
        · refine .inr ⟨t, t1, by rw [List.length_append]; omega, fun q hq => ?_, t4⟩
          rcases List.mem_append.mp hq with hq | hq
          · have := h.inn q hq
            intro; omega
          · exact t3 q hq
/-- a loop about rows, its last row a rest or a jump out -/
theorem Blk.wrap {d a : Nat} {X : List Row} {l : List Pr2} {n : Int} {some_ : Row} (h : Blk d (a + 1) X l) (h1 : 1 ≤ n) (h2 : n ≤ 6) (hs : some_ = (sRest, []) ∨ some_ = (sGo, [(a : Int) + X.length + 3])) :
    Blk (d + 1) a ([(sCount, [n])] ++ X ++ [some_, (sAgain, [(a : Int) + 1])]) (((a : Int), (a : Int) + X.length + 2) :: l) := by
  have inn : ∀ p ∈ l, (a : Int) + 1 ≤ p.1 ∧ p.1 < p.2 ∧ p.2 < (a : Int) + 1 + X.length := fun p hp => by have := h.inn p hp; omega
  have len : ([(sCount, [n])] ++ X ++ [some_, (sAgain, [(a : Int) + 1])]).length = X.length + 3 := by simp
  refine ⟨fun p hp => ?_, ?_, fun i => ?_, fun j r hj => ?_⟩
  · rw [len]
    rcases List.mem_cons.mp hp with rfl | hp
    · dsimp only; omega
    · have := inn p hp; omega
  · rw [List.pairwise_cons]
    refine ⟨fun q hq => ?_, h.ap⟩
    have := inn q hq
    unfold apart2
    dsimp only
    omega
  · have := h.deep i
    unfold cntL at this ⊢
    rw [List.filter_cons]
    split
    · rw [List.length_cons]; omega
    · omega
  · rw [len]
    by_cases j0 : j = 0
    · subst j0
      simp at hj
      exact .inl ⟨by simp, n, hj.symm, h1, h2⟩
    by_cases j1 : j < X.length + 1
    · have hj' : X[j - 1]? = some r := by
        obtain ⟨k, rfl⟩ : ∃ k, j = k + 1 := ⟨j - 1, by omega⟩
        have : ([(sCount, [n])] ++ X ++ [some_, (sAgain, [(a : Int) + 1])])[k + 1]? = X[k]? := by
          simp only [List.singleton_append, List.cons_append, List.getElem?_cons_succ]
          exact List.getElem?_append_left (by simp; omega)
        rw [this] at hj
        simpa using hj
      have ej : a + j = a + 1 + (j - 1) := by omega
      have hr := h.rows (j - 1) r hj'
      rw [← ej] at hr
      have n1 : ((a + j : Nat) : Int) ≠ a := by omega
      have n2 : ((a + j : Nat) : Int) ≠ (a : Int) + X.length + 2 := by omega
      rcases hr with ⟨m1, m2⟩ | ⟨m1, f, m2, m3⟩ | ⟨m1, m2, m3⟩
      · exact .inl ⟨by rw [List.map_cons]; exact List.mem_cons_of_mem _ m1, m2⟩
      · exact .inr (.inl ⟨by rw [List.map_cons, List.mem_cons]; exact fun e => e.elim n1 m1, f, List.mem_cons_of_mem _ m2, m3⟩)
      · refine .inr (.inr ⟨by rw [List.map_cons, List.mem_cons]; exact fun e => e.elim n1 m1, by rw [List.map_cons, List.mem_cons]; exact fun e => e.elim n2 m2, ?_⟩)
        rcases m3 with m3 | ⟨t, t1, t2, t3, t4⟩
        · exact .inl m3
        · refine .inr ⟨t, t1, by omega, fun q hq => ?_, t4⟩
          rcases List.mem_cons.mp hq with rfl | hq
          · dsimp only
            intro; omega
          · exact t3 q hq
    · have o1 : ∀ k : Int, (a : Int) + 1 + X.length ≤ k → k ∉ l.map (·.1) := fun k hk hm => by
        obtain ⟨p, hp, e⟩ := List.mem_map.mp hm
        have := inn p hp
        omega
      have o2 : ∀ k : Int, (a : Int) + 1 + X.length ≤ k → k ∉ l.map (·.2) := fun k hk hm => by
        obtain ⟨p, hp, e⟩ := List.mem_map.mp hm
        have := inn p hp
        omega
      rw [List.getElem?_append_right (by simp; omega)] at hj
      by_cases j2 : j = X.length + 1
      · subst j2
        have e0 : X.length + 1 - ([(sCount, [n])] ++ X).length = 0 := by simp
        rw [e0] at hj
        simp at hj
        subst hj
        refine .inr (.inr ⟨by rw [List.map_cons, List.mem_cons]; exact fun e => e.elim (by dsimp only; omega) (o1 _ (by omega)), by rw [List.map_cons, List.mem_cons]; exact fun e => e.elim (by dsimp only; omega) (o2 _ (by omega)), ?_⟩)
        rcases hs with rfl | rfl
        · exact .inl rfl
        · refine .inr ⟨(a : Int) + X.length + 3, by omega, by omega, fun q hq => ?_, rfl⟩
          rcases List.mem_cons.mp hq with rfl | hq
          · dsimp only; intro; omega
          · have := inn q hq
            intro; omega
      · have j3 : j = X.length + 2 := by
          have := (List.getElem?_eq_some_iff.mp hj).1
          simp at this
          omega
        subst j3
        have e0 : X.length + 2 - ([(sCount, [n])] ++ X).length = 1 := by simp
        rw [e0] at hj
        simp at hj
        subst hj
        refine .inr (.inl ⟨by rw [List.map_cons, List.mem_cons]; exact fun e => e.elim (by dsimp only; omega) (o1 _ (by omega)), a, ?_, rfl⟩)
        have : ((a + (X.length + 2) : Nat) : Int) = (a : Int) + X.length + 2 := by omega
        rw [this]
        exact List.mem_cons_self
/-- rows by themselves, with end behind them, are a code -/
theorem Blk.code {R : List Row} {l : List Pr2} (h : Blk 2 0 R l) (hn : R.length ≤ 59) : CodeBy ⟨[], 1, 0, [], R ++ [(sEnd, [])]⟩ l := by
  have len : (R ++ [((sEnd, []) : Row)]).length = R.length + 1 := by simp
  refine ⟨by rw [len]; omega, by show (1 : Int) ≤ 1; omega, by show (1 : Int) ≤ 16; omega, by simp, by show ((0 : Nat) : Int) ≤ 1; omega, fun p hp => (nomatch hp), by show (0 : Int) ≤ 0; omega, by show (0 : Int) ≤ 1; omega, by simp, fun p hp => (nomatch hp), fun p hp => ?_, h.ap, fun i => ?_, R, rfl, fun i r hr => ?_⟩
  · have := h.inn p hp
    dsimp only
    rw [len]
    omega
  · unfold aroundL
    rw [List.length_map, ((sort2_perm l).filter _).length_eq]
    exact h.deep i
  · have f1 : ∀ x, x ∈ (sort2 l).map (·.1) ↔ x ∈ l.map (·.1) := fun x => ((sort2_perm l).map _).mem_iff
    have f2 : ∀ x, x ∈ (sort2 l).map (·.2) ↔ x ∈ l.map (·.2) := fun x => ((sort2_perm l).map _).mem_iff
    have hr' := h.rows i r hr
    rw [Nat.zero_add] at hr'
    rcases hr' with ⟨m1, n, m2, m3⟩ | ⟨m1, f, m2, m3⟩ | ⟨m1, m2, m3⟩
    · exact .inl ⟨(f1 _).mpr m1, n, m2, m3⟩
    · exact .inr (.inl ⟨fun e => m1 ((f1 _).mp e), f, sort2_mem.mpr m2, m3⟩)
    · refine .inr (.inr ⟨fun e => m1 ((f1 _).mp e), fun e => m2 ((f2 _).mp e), ?_⟩)
      rcases m3 with rfl | ⟨t, t1, t2, t3, t4⟩
      · exact .inr ⟨fun n => row_rest, plain_row "rest" (by decide)⟩
      · refine .inl ⟨t, t1, by dsimp only; rw [len]; omega, fun q hq => ?_, .inl t4⟩
        unfold aroundL at hq ⊢
        obtain ⟨p, hp, rfl⟩ := List.mem_map.mp hq
        rw [List.mem_filter, decide_eq_true_eq] at hp
        refine List.mem_map.mpr ⟨p, List.mem_filter.mpr ⟨hp.1, ?_⟩, rfl⟩
        rw [decide_eq_true_eq]
        exact t3 p (sort2_mem.mp hp.1) hp.2.1 hp.2.2
end Iv
set_option Elab.async false
set_option linter.all false
set_option maxRecDepth 100000
set_option maxHeartbeats 4000000
/-! Wd3: what can be shown as a text. -/
namespace Iv
open PySem
theorem strOk_app {a b : Str} (h1 : PyData.strOk a = true) (h2 : PyData.strOk b = true) : PyData.strOk (a ++ b) = true := by
  unfold PyData.strOk at *
  rw [Str.cps_append, Array.all_append, h1, h2]
  rfl
theorem strOk_join {s : Str} (hs : PyData.strOk s = true) : ∀ {ts : List Str}, (∀ t ∈ ts, PyData.strOk t = true) → PyData.strOk (Str.join s ts) = true
  | [], _ => by simp [Str.join, Str.empty, PyData.strOk]
  | [x], h => h x (by simp)
  | x :: y :: r, h => by
    show PyData.strOk (x ++ s ++ Str.join s (y :: r)) = true
    exact strOk_app (strOk_app (h x (by simp)) hs) (strOk_join hs fun t ht => h t (List.mem_cons_of_mem _ ht))
/-- can be shown: depth, length -/
structure Tm (k w : Nat) (d : PyData) : Prop where
  lay : d.canLay0 = true
  shw : d.showable = true
  sok : PyData.strOk d.shown = true
  dep : d.depth ≤ k
  len : d.shown.length ≤ w
theorem Tm.mono {k w k' w' : Nat} {d : PyData} (h : Tm k w d) (hk : k ≤ k') (hw : w ≤ w') : Tm k' w' d := ⟨h.lay, h.shw, h.sok, Nat.le_trans h.dep hk, Nat.le_trans h.len hw⟩
theorem Tm.int {i : Int} {n : Nat} (hn : 0 < n) (hn2 : n ≤ 400) (h : i.natAbs < 10 ^ n) : Tm 0 (n + 1) (.int i) := by
  refine ⟨by simp [PyData.canLay0], ?_, by rw [PyData.shown_int]; exact strOk_ofS _, by simp [PyData.depth], ?_⟩
  · simp only [PyData.showable, decide_eq_true_eq]
    have h1 : (10 : Nat) ^ n ≤ 2 ^ (4 * n) := by
      rw [show (2 : Nat) ^ (4 * n) = (2 ^ 4) ^ n from Nat.pow_mul 2 4 n]
      exact Nat.pow_le_pow_left (by decide) n
    have := log2_le (Nat.lt_of_lt_of_le h h1) (by omega)
    omega
  · rw [PyData.shown_int]
    have h2 := int_text_length_le10 hn h
    have e : (Str.ofString (toString i)).length = (toString i).length := by
      rw [Str.ofString_eq_toList]
      simp only [Str.length, List.size_toArray, List.length_map, String.length_toList]
    rw [e]
    exact h2
theorem Tm.int3 {i : Int} (h : -1000 < i ∧ i < 1000) : Tm 0 4 (.int i) := Tm.int (n := 3) (by decide) (by decide) (by omega)
theorem Tm.none_ : Tm 0 4 .none := ⟨by simp [PyData.canLay0], by simp [PyData.showable], by rw [PyData.shown_none]; exact strOk_ofS _, by simp [PyData.depth], by rw [PyData.shown_none]; decide +kernel⟩
theorem Tm.bool_ {b : Bool} : Tm 0 5 (.bool b) := ⟨by simp [PyData.canLay0], by simp [PyData.showable], by rw [PyData.shown_bool]; cases b <;> exact strOk_ofS _, by simp [PyData.depth], by rw [PyData.shown_bool]; cases b <;> decide +kernel⟩
theorem shownAll_mem : ∀ {xs : List PyData} {t : Str}, t ∈ PyData.shownAll xs → ∃ d ∈ xs, d.shown = t
  | [], t, h => by simp [PyData.shownAll] at h
  | x :: xs, t, h => by
    rw [PyData.shownAll_cons, List.mem_cons] at h
    rcases h with rfl | h
    · exact ⟨x, by simp, rfl⟩
    · obtain ⟨d, h1, h2⟩ := shownAll_mem h
      exact ⟨d, by simp [h1], h2⟩
theorem piled_le {w : Nat} : ∀ {ts : List Str}, (∀ t ∈ ts, t.length ≤ w) → piled ts ≤ ts.length * (w + 2)
  | [], _ => by simp [piled]
  | t :: ts, h => by
    have h1 := h t (by simp)
    have h2 := piled_le (ts := ts) fun t ht => h t (by simp [ht])
    have : piled (t :: ts) = t.length + 2 + piled ts := by simp [piled]
    rw [this, List.length_cons, Nat.succ_mul]
    omega
theorem layAll_of : ∀ {xs : List PyData}, (∀ d ∈ xs, d.canLay0 = true) → PyData.canLayAll0 xs = true
  | [], _ => by simp [PyData.canLayAll0]
  | x :: xs, h => by rw [PyData.canLayAll0, h x (by simp), layAll_of fun d hd => h d (by simp [hd])]; rfl
theorem showAll_of : ∀ {xs : List PyData}, (∀ d ∈ xs, d.showable = true) → PyData.showableAll xs = true
  | [], _ => by simp [PyData.showableAll]
  | x :: xs, h => by rw [PyData.showableAll, h x (by simp), showAll_of fun d hd => h d (by simp [hd])]; rfl
theorem depAll_of {k : Nat} : ∀ {xs : List PyData}, (∀ d ∈ xs, d.depth ≤ k) → PyData.depthAll xs ≤ k
  | [], _ => by simp [PyData.depthAll]
  | x :: xs, h => by
    have := h x (by simp)
    have := depAll_of (xs := xs) fun d hd => h d (by simp [hd])
    rw [PyData.depthAll]
    omega
theorem join_le {w n : Nat} {xs : List PyData} (h : ∀ d ∈ xs, d.shown.length ≤ w) (hn : xs.length ≤ n) : (Str.join ", " (PyData.shownAll xs)).length ≤ n * (w + 2) := by
  by_cases e : PyData.shownAll xs = []
  · rw [e]; exact Nat.zero_le _
  · have h1 := join_length_add _ e
    have h2 := piled_le (w := w) (ts := PyData.shownAll xs) fun t ht => by
      obtain ⟨d, hd, rfl⟩ := shownAll_mem ht
      exact h d hd
    rw [PyData.shownAll_length] at h2
    have h3 : xs.length * (w + 2) ≤ n * (w + 2) := Nat.mul_le_mul_right _ hn
    omega
theorem Tm.list {k w n : Nat} {xs : List PyData} (h : ∀ d ∈ xs, Tm k w d) (hn : xs.length ≤ n) : Tm (k + 1) (n * (w + 2) + 2) (.list xs) := by
  have j := join_le (fun d hd => (h d hd).len) hn
  refine ⟨by rw [PyData.canLay0]; exact layAll_of fun d hd => (h d hd).lay, by rw [PyData.showable]; exact showAll_of fun d hd => (h d hd).shw, ?_, ?_, ?_⟩
  · rw [PyData.shown_list]
    refine strOk_app (strOk_app (strOk_ofS _) (strOk_join (strOk_ofS _) fun t ht => ?_)) (strOk_ofS _)
    obtain ⟨d, hd, rfl⟩ := shownAll_mem ht
    exact (h d hd).sok
  · have := depAll_of fun d hd => (h d hd).dep
    rw [PyData.depth]
    omega
  · rw [PyData.shown_list, strLen_append, strLen_append]
    have : (("[" : String) : Str).length = 1 := rfl
    have : (("]" : String) : Str).length = 1 := rfl
    omega
theorem Tm.tuple {k w n : Nat} {xs : List PyData} (h : ∀ d ∈ xs, Tm k w d) (hn : xs.length ≤ n) : Tm (k + 1) (n * (w + 2) + 3) (.tuple xs) := by
  have j := join_le (fun d hd => (h d hd).len) hn
  refine ⟨by rw [PyData.canLay0]; exact layAll_of fun d hd => (h d hd).lay, by rw [PyData.showable]; exact showAll_of fun d hd => (h d hd).shw, ?_, ?_, ?_⟩
  · rw [PyData.shown_tuple]
    refine strOk_app (strOk_app (strOk_ofS _) (strOk_join (strOk_ofS _) fun t ht => ?_)) (strOk_ofS _)
    obtain ⟨d, hd, rfl⟩ := shownAll_mem ht
    exact (h d hd).sok
  · have := depAll_of fun d hd => (h d hd).dep
    rw [PyData.depth]
    omega
  · rw [PyData.shown_tuple, strLen_append, strLen_append]
    have e1 : (("(" : String) : Str).length = 1 := rfl
    have e2 : (Str.ofString (if xs.length == 1 then ",)" else ")")).length ≤ 2 := by
      split
      · decide +kernel
      · decide +kernel
    omega
theorem Tm.listM {τ : Type} {enc : τ → PyData} {k w n : Nat} {l : List τ} (h : ∀ t ∈ l, Tm k w (enc t)) (hn : l.length ≤ n) : Tm (k + 1) (n * (w + 2) + 2) (.list (l.map enc)) :=
  Tm.list (fun d hd => by obtain ⟨t, ht, rfl⟩ := List.mem_map.mp hd; exact h t ht) (by rw [List.length_map]; exact hn)
theorem Tm.tupleM {τ : Type} {enc : τ → PyData} {k w n : Nat} {l : List τ} (h : ∀ t ∈ l, Tm k w (enc t)) (hn : l.length ≤ n) : Tm (k + 1) (n * (w + 2) + 3) (.tuple (l.map enc)) :=
  Tm.tuple (fun d hd => by obtain ⟨t, ht, rfl⟩ := List.mem_map.mp hd; exact h t ht) (by rw [List.length_map]; exact hn)
theorem Tm.ok {k w : Nat} {d : PyData} (h : Tm k w d) (hk : k ≤ 64) (hw : w ≤ 16777216) : reprOk d = true := by
  unfold reprOk
  have := h.dep
  have := h.len
  rw [h.lay, h.shw, sizeLine_eq]
  simp
  omega
section
variable {st : Sto} {Q : Vl → Sto → Prop}
theorem oq_repr {k w : Nat} {d : PyData} (h : Tm k w d) (hk : k ≤ 64) (hw : w ≤ 16777216) : OptQ (pRepr [.d d] st) Q = Q (.d (.str d.shown)) st := by
  show OptQ ((asD st (.d d)).bind fun d => if reprOk d = true then some (.d (.str d.shown), st) else none) Q = _
  simp only [asD, Option.bind_some, if_pos (h.ok hk hw)]
  rfl
theorem oq_neS {x y : Str} (hx : PyData.strOk x = true) (hy : PyData.strOk y = true) : OptQ (cmpP .NotEq (.d (.str x)) (.d (.str y)) st) Q = Q (.d (.bool (!decide (x = y)))) st := oq_neE EncOk.str (by decide) hx hy
theorem oq_eqS2 {x y : Str} (hx : PyData.strOk x = true) (hy : PyData.strOk y = true) : OptQ (cmpP .Eq (.d (.str x)) (.d (.str y)) st) Q = Q (.d (.bool (decide (x = y)))) st := oq_eqE EncOk.str (by decide) hx hy
end
section
variable {st : Sto} {Q : Vl → Sto → Prop}
theorem eq_self {k w : Nat} {d : PyData} (h : Tm k w d) (hk : k ≤ 64) : OptQ (cmpP .Eq (.d d) (.d d) st) Q = Q (.d (.bool true)) st := by
  have e : eqOk d d = true := by
    unfold eqOk
    have := h.dep
    rw [h.lay]
    simp
    omega
  rw [oq_eqD e, SeqAt.eqv_refl _ h.lay]
theorem ne_self {k w : Nat} {d : PyData} (h : Tm k w d) (hk : k ≤ 64) : OptQ (cmpP .NotEq (.d d) (.d d) st) Q = Q (.d (.bool false)) st := by
  have e : eqOk d d = true := by
    unfold eqOk
    have := h.dep
    rw [h.lay]
    simp
    omega
  rw [oq_neD e, SeqAt.eqv_refl _ h.lay]
  rfl
end
/-! ### codes -/
theorem Tm.word {kvs : DKv} {r : Row} (h : RowOk kvs r) : Tm 0 10 (.str r.1) := by
  obtain ⟨kinds, h1, _⟩ := h
  have := lookup_mem' h1
  have all : ∀ q ∈ tab_FORMS, Tm 0 10 (.str q.1) := by
    intro q hq
    simp only [tab_FORMS, List.mem_cons, List.not_mem_nil, or_false] at hq
    rcases hq with rfl | rfl | rfl | rfl | rfl | rfl | rfl | rfl | rfl | rfl | rfl | rfl | rfl | rfl | rfl <;>
      exact ⟨by rw [PyData.canLay0]; exact strOk_ofS _, by simp [PyData.showable], by rw [PyData.shown_str]; decide +kernel, by simp [PyData.depth], by rw [PyData.shown_str]; decide +kernel⟩
  exact all _ this
theorem lim_bound {many : Int} {na n : Nat} (h1 : many ≤ 16) (h2 : na ≤ 2) (h3 : n ≤ 60) {k : L2.Key} {lo hi : Int} (h : lookK (limD many na n) k = some (.tuple [.int lo, .int hi])) : 0 ≤ lo ∧ hi ≤ 255 := by
  unfold lookK at h
  obtain ⟨y, hy, e⟩ := Option.map_eq_some_iff.mp h
  have := List.mem_of_find?_eq_some hy
  simp only [limD, List.mem_cons, List.not_mem_nil, or_false] at this
  rcases this with rfl | rfl | rfl | rfl | rfl <;>
    (simp only [PyData.tuple.injEq, List.cons.injEq, PyData.int.injEq, and_true] at e; omega)
theorem RowOk.bound {many : Int} {na n : Nat} (h1 : many ≤ 16) (h2 : na ≤ 2) (h3 : n ≤ 60) {r : Row} (h : RowOk (limD many na n) r) : r.2.length ≤ 10 ∧ ∀ i ∈ r.2, 0 ≤ i ∧ i ≤ 255 := by
  obtain ⟨kinds, _, h4, h5, h6⟩ := h
  refine ⟨h5, fun i hi => ?_⟩
  obtain ⟨j, hj, e⟩ := List.mem_iff_getElem.mp hi
  have hm : (i, kinds[j]'(by omega)) ∈ r.2.zip kinds := by
    refine List.mem_iff_getElem.mpr ⟨j, by rw [List.length_zip]; omega, ?_⟩
    rw [List.getElem_zip, e]
  obtain ⟨lo, hi', q1, q2, q3⟩ := h6 _ hm
  have := lim_bound h1 h2 h3 q1
  dsimp only at q2 q3
  omega
theorem RowOk.tm {many : Int} {na n : Nat} (h1 : many ≤ 16) (h2 : na ≤ 2) (h3 : n ≤ 60) {r : Row} (h : RowOk (limD many na n) r) : Tm 1 135 (rowD r) := by
  obtain ⟨b1, b2⟩ := h.bound h1 h2 h3
  refine (Tm.tuple (n := 11) (w := 10) (k := 0) (fun d hd => ?_) ?_).mono (by decide) (by decide)
  · rcases List.mem_cons.mp hd with rfl | hd
    · exact Tm.word h
    · obtain ⟨i, hi, rfl⟩ := List.mem_map.mp hd
      have := b2 i hi
      exact (Tm.int3 (by omega)).mono (by decide) (by decide)
  · rw [List.length_cons, List.length_map]
    omega
theorem tm_pair {p : Pr2} (h : -1000 < p.1 ∧ p.1 < 1000 ∧ -1000 < p.2 ∧ p.2 < 1000) : Tm 1 15 (pairD p) := by
  refine (Tm.tuple (xs := [.int p.1, .int p.2]) (n := 2) (w := 4) (k := 0) (fun d hd => ?_) (show (2 : Nat) ≤ 2 by decide)).mono (by decide) (by decide)
  simp only [List.mem_cons, List.not_mem_nil, or_false] at hd
  rcases hd with rfl | rfl
  · exact Tm.int3 (by omega)
  · exact Tm.int3 (by omega)
theorem Code.Ok.tm {c : Code} (ok : c.Ok) : Tm 3 60000 c.d := by
  have m3 := ok.many3
  have m1 := ok.many1
  have s1 := ok.shown1
  have s2 := ok.shown2
  have z1 := ok.sizes1
  have a1 := ok.asks1
  refine (Tm.tuple (xs := [pairsT c.asks, .int c.many, .int c.shown, intsT c.sizes, rowsD c.rows]) (n := 5) (w := 9000) (k := 2) (fun d hd => ?_) (show (5 : Nat) ≤ 5 by decide)).mono (by decide) (by decide)
  simp only [List.mem_cons, List.not_mem_nil, or_false] at hd
  rcases hd with rfl | rfl | rfl | rfl | rfl
  · refine (Tm.tupleM (n := 3) (w := 15) (k := 1) (fun p hp => ?_) a1).mono (by decide) (by decide)
    have := ok.asks2 p hp
    exact tm_pair (by omega)
  · exact (Tm.int3 (by omega)).mono (by decide) (by decide)
  · exact (Tm.int3 (by omega)).mono (by decide) (by decide)
  · refine (Tm.tupleM (n := 2) (w := 4) (k := 0) (fun p hp => ?_) z1).mono (by decide) (by decide)
    have := ok.sizes2 p hp
    exact Tm.int3 (by omega)
  · exact (Tm.tupleM (n := 60) (w := 135) (k := 1) (fun r hr => (ok.rows3 r hr).tm m3 z1 ok.rows2) ok.rows2).mono (by decide) (by decide)
end Iv
set_option Elab.async false
set_option linter.all false
set_option maxRecDepth 100000
set_option maxHeartbeats 2000000
/-! Wt2: is_term, _law_depth: terms of at most so many ops and ats. -/
namespace Iv
open PySem
local macro_rules   | `(tactic| ktr_call $a:term $b:term) => `(tactic| simp (config := { maxSteps := 400000, failIfUnchanged := false, implicitDefEqProofs := false }) only [↓sw_forS, ↓wp_lcG, ↓wp_itV, ↓wp_itR1, ↓wp_itR2, ↓it_l, ↓it_t, ↓it_pL, ↓it_pT, ↓it_iL, ↓it_iT, ↓it_rD, ↓it_ref, ↓it_r1, ↓it_r2, ↓en_t, ↓en_l, ↓en_rD, ↓en_pL, ↓en_iL, ↓en_iT, ↓stw_nil, ↓stw_stw, List.append_nil, ↓sw_bad, ↓sw_seq, ↓sw_next, ↓sw_set, ↓sw_ret, ↓sw_retN, ↓sw_drop, ↓sw_if, ↓sw_sub, ↓sw_asg, ↓sw_par, ↓wp_bind, ↓wp_ret, ↓wp_cM, ↓wp_nil, ↓wp_cons, ↓wp_v0, ↓wp_vs, ↓wp_ty, ↓wp_gl, ↓wp_bin, ↓wp_un, ↓wp_callP, ↓wp_callF, ↓wp_g1, ↓wp_g2, ↓wp_g3, ↓wp_g4,       ↓wp_bM, ↓wp_asB, ↓wp_notM, ↓wp_orM, ↓wp_andM, ↓wp_tst, ↓wp_trub, ↓tru_int, ↓tru_none, ↓tru_list, ↓tru_tuple, ↓wp_andV, ↓wp_orV, ↓wp_notV, ↓wp_ifV, ↓wp_chain, ↓wp_frzD, ↓wp_tupM, ↓oq_tuple0, ↓wp_lstM, ↓wp_lstC, ↓frzs_nil, ↓frzs_cons, ↓frzs_ref, ↓wp_retL', ↓wp_retT', ↓wp_newC', ↓wp_meth1, ↓wp_meth2, ↓wp_isL, ↓oq_append, ↓oq_pop, ↓pl_ref, ↓ix_ref', ↓ex_lst, ex_lst, List.getElem?_cons_zero, List.getElem?_cons_succ, ↓ls_r, ↓ls_0, ↓ls_1, ↓ls_2, ↓stw_r, ↓stw_k, ↓stw_k0, ↓stw_set, ↓stw_setk, ↓stw_setk0, ↓stw_app, ↓stw_len, ↓stw_back, ↓stw_new,       ↓oq_l1, ↓oq_l2, ↓oq_add, ↓oq_sub, ↓oq_mul, ↓oq_neg, ↓oq_max, ↓oq_min, ↓oq_mod, ↓oq_fdiv, ↓oq_abs, ↓oq_intB, ↓oq_le, ↓oq_lt, ↓oq_ge, ↓oq_gt, ↓oq_eqI, ↓oq_neI, ↓oq_eqS', ↓ty_intsL, ↓ty_intsT, ↓ty_pairsT, ↓ty_pairsL, ↓ty_rowsD, ↓ty_rowD, ↓ty_pairD, ↓pl_pairsT, ↓pl_intsL, ↓pl_intsT, ↓pl_pairsL, ↓pl_rowsD, ↓oq_eqIs, ↓oq_neIs, ↓oq_inIs, ↓oq_ninIs, ↓pl_list, ↓pl_tuple, ↓oq_isi, ↓ix_tup, ↓ix_lst, ↓at_0, ↓at_1, ↓at_nat, ↓at_m1, ↓at_lit, ↓eq_ref, ↓en_ref, ↓drop_last, ↓get_last, ↓stw_new1, ↓oq_tupleR, ↓add_ll, ↓add_tt, ↓add_rl, ↓ne_nilT, ↓eq_nilI, ↓in_dictI, ↓ix_dictI, ↓on_some, ↓on_none, ↓on_map, ↓asgQ_some, ↓asgQ_none, ↓aName, ↓aTup_tup, ↓aTup_lst, ↓aCons_cons, ↓aNil_nil, ↓back_take, ↓back_set, ↓ty_int, ↓ty_bool, ↓ty_str, ↓ty_list, ↓ty_tuple, ↓isi_self, ↓isi_ib,       ↓List.set_cons_succ, ↓List.set_cons_zero, List.set_cons_succ, List.set_cons_zero, wp_v0, wp_vs, wipe_nil, wipe_cons, implies_true, forall_const, ↓wp_slM, ↓wp_noO, ↓wp_someO, ↓wp_asI, ↓sl_list, ↓sl_tuple, ↓Option.bind_some, ↓$a, ↓$b, decide_eq_true_eq, Bool.not_eq_true', decide_eq_false_iff_not, ↓reduceIte, true_and, and_true, if_true, if_false, List.length_cons, List.length_nil, List.length_map, ↓srt_ref, ↓srt_pL, Nat.add_zero, Nat.zero_add, List.nil_append, List.cons_append, List.zip_cons_cons, List.zip_nil_left, List.zip_nil_right, List.foldl_cons, List.foldl_nil, ne_eq, not_true_eq_false, not_false_eq_true, reduceCtorEq, Bool.true_eq_false, Bool.false_eq_true, Bool.not_true, Bool.not_false, Bool.not_not, Nat.reduceAdd, sizeLine_eq, Nat.reduceLeDiff, cast_lit, Int.reduceEq, Int.reduceLT, Int.reduceLE, Int.reduceNeg])
local macro_rules   | `(tactic| walk_at "dec") => `(tactic| (repeat' split) <;> first | exact (decide_eq_true (by omega)).symm | exact (decide_eq_false (by omega)).symm | exact decide_eq_decide.mpr (by omega) | exact decide_eq_true (by omega) | exact decide_eq_false (by omega)) 
def leafB (d : PyData) : Bool := worthB d || nameB d
def termB : Nat → PyData → Bool
  | 0, d => leafB d
  | k + 1, d => leafB d || match d with
    | .tuple [.str w, a, b] => if w = Str.ofString "at" then nameB a && termB k b else opB w && (termB k a && termB k b)
    | _ => false
def depF : Nat → PyData → Nat
  | 0, d => if leafB d = true then 0 else 9
  | n + 1, d => if leafB d = true then 0 else match d with
    | .tuple [.str w, a, b] => if w = Str.ofString "at" then (if nameB a = true then 1 + depF n b else 9) else if opB w = true then 1 + max (depF n a) (depF n b) else 9
    | _ => 9
/-- at most so many tuples within one another, sound texts, no tuple of more than L -/
def Tn (L : Nat) : Nat → PyData → Prop
  | 0, d => match d with
    | .str x => PyData.strOk x = true ∧ x.length ≤ 100
    | .tuple xs => xs = []
    | _ => True
  | n + 1, d => match d with
    | .str x => PyData.strOk x = true ∧ x.length ≤ 100
    | .tuple xs => xs.length ≤ L ∧ ∀ y ∈ xs, Tn L n y
    | _ => True
variable {L : Nat}
theorem Tn.sx {n : Nat} {d : PyData} (h : Tn L n d) : Sx d := by
  cases d with
  | str x => cases n <;> exact h
  | _ => trivial
theorem Tn.tup {n : Nat} {a b c : PyData} (h : Tn L n (.tuple [a, b, c])) : ∃ k, n = k + 1 ∧ Tn L k a ∧ Tn L k b ∧ Tn L k c := by
  cases n with
  | zero => unfold Tn at h; cases h
  | succ k =>
    unfold Tn at h
    exact ⟨k, rfl, h.2 a (by simp), h.2 b (by simp), h.2 c (by simp)⟩
theorem leaf_tup {xs : List PyData} : leafB (.tuple xs) = false := rfl
theorem depF_tup {n : Nat} {w : Str} {a b : PyData} : depF (n + 1) (.tuple [.str w, a, b]) = if w = Str.ofString "at" then (if nameB a = true then 1 + depF n b else 9) else if opB w = true then 1 + max (depF n a) (depF n b) else 9 := by
  show (if leafB (.tuple [.str w, a, b]) = true then 0 else _) = _
  rw [if_neg (show ¬ leafB (.tuple [.str w, a, b]) = true by rw [leaf_tup]; decide)]
theorem termB_tup {n : Nat} {w : Str} {a b : PyData} : termB (n + 1) (.tuple [.str w, a, b]) = if w = Str.ofString "at" then nameB a && termB n b else opB w && (termB n a && termB n b) := by
  show (leafB (.tuple [.str w, a, b]) || _) = _
  rw [leaf_tup, Bool.false_or]
/-- the two looks tell alike -/
theorem term_dep : ∀ (n k : Nat) (d : PyData), k ≤ 8 → Tn L n d → termB k d = decide (depF n d ≤ k)
  | n, k, d, hk, h => by
    by_cases hl : leafB d = true
    · have e1 : termB k d = true := by cases k <;> simp [termB, hl]
      have e2 : depF n d = 0 := by cases n <;> simp [depF, hl]
      rw [e1, e2]
      simp
    · have hl2 : leafB d = false := by simpa using hl
      have nine : ∀ x, x = 9 → decide (x ≤ k) = false := fun x hx => decide_eq_false (by omega)
      by_cases ht : ∃ w a b, d = .tuple [.str w, a, b]
      · obtain ⟨w, a, b, rfl⟩ := ht
        obtain ⟨j, rfl, _, ha, hb⟩ := h.tup
        cases k with
        | zero =>
          have : depF (j + 1) (.tuple [.str w, a, b]) ≠ 0 := by
            rw [depF_tup]
            split
            · split <;> omega
            · split <;> omega
          rw [show termB 0 (.tuple [.str w, a, b]) = false from rfl]
          exact (decide_eq_false (by omega)).symm
        | succ i =>
          have ia := term_dep j i a (by omega) ha
          have ib := term_dep j i b (by omega) hb
          rw [termB_tup, depF_tup, ia, ib]
          by_cases hw : w = Str.ofString "at"
          · rw [if_pos hw, if_pos hw]
            cases nameB a with
            | true => rw [if_pos rfl, Bool.true_and]; exact decide_eq_decide.mpr (by omega)
            | false => rw [if_neg (by decide), Bool.false_and]; exact (nine _ rfl).symm
          · rw [if_neg hw, if_neg hw]
            cases opB w with
            | true =>
              rw [if_pos rfl, Bool.true_and, ← Bool.decide_and]
              exact decide_eq_decide.mpr (by omega)
            | false => rw [if_neg (by decide), Bool.false_and]; exact (nine _ rfl).symm
      · have e1 : termB k d = false := by
          cases k with
          | zero => exact hl2
          | succ i =>
            simp only [termB, hl2, Bool.false_or]
            split
            · exact absurd ⟨_, _, _, rfl⟩ ht
            · rfl
        have e2 : depF n d = 9 := by
          cases n with
          | zero => simp [depF, hl2]
          | succ i =>
            simp only [depF, hl2]
            rw [if_neg (by decide)]
            split
            · exact absurd ⟨_, _, _, rfl⟩ ht
            · rfl
        rw [e1, e2]
        exact (nine _ rfl).symm
section
variable {P : Pg} {st : Sto} {ρ : Env}
theorem opB_mem {w : Str} : opB w = decide (w ∈ ([Str.ofString "+", Str.ofString "-", Str.ofString "*", Str.ofString "<", Str.ofString "="] : List Str)) := by
  by_cases h1 : w = Str.ofString "+"
  · subst h1; decide +kernel
  by_cases h2 : w = Str.ofString "-"
  · subst h2; decide +kernel
  by_cases h3 : w = Str.ofString "*"
  · subst h3; decide +kernel
  by_cases h4 : w = Str.ofString "<"
  · subst h4; decide +kernel
  by_cases h5 : w = Str.ofString "="
  · subst h5; decide +kernel
  have e : ∀ {a b : Str}, a ≠ b → (a == b) = false := fun h => beq_eq_false_iff_ne.mpr h
  simp only [opB, t_OPS, List.lookup, e h1, e h2, e h3, e h4, e h5]
  simp [h1, h2, h3, h4, h5]
theorem oq_inOps {x : Str} {Q : Vl → Sto → Prop} : OptQ (pInD2 false "OPS" t_OPS (.d (.str x)) (.gl (Str.ofString "OPS")) st) Q = Q (.d (.bool (opB x))) st := by
  show OptQ (if Str.ofString "OPS" = Str.ofString "OPS" then some (Vl.d (.bool (false ^^ (t_OPS.lookup x).isSome)), st) else none) Q = _
  rw [if_pos rfl, Bool.false_xor]
  rfl
theorem op_is (C : TermP P) {m : Nat} (hm : 0 < m) {x : Str} : Is (callN P m "is_op" [.d (.str x)]) st (.d (.bool (opB x))) := by
  refine C.op.is (k := 0) hm fun m' hm' => ?_
  show SWp _ [some (.d (.str x))] _ _ _
  unfold b_t_is_op
  ktr_call isiS (@oq_inOps)
def strQ (d : PyData) : Bool := isi (tyD d) .str
theorem shapeD (d : PyData) : isi (tyD d) .tup = false ∨ (∃ xs, d = .tuple xs ∧ xs.length ≠ 3) ∨ (∃ a b c, d = .tuple [a, b, c] ∧ isi (tyD a) .str = false) ∨ ∃ w b c, d = .tuple [.str w, b, c] := by
  cases d with
  | tuple xs =>
    by_cases h : xs.length = 3
    · obtain ⟨a, b, c, rfl⟩ : ∃ a b c, xs = [a, b, c] := by
        match xs, h with
        | [a, b, c], _ => exact ⟨a, b, c, rfl⟩
      cases a with
      | str w => exact .inr (.inr (.inr ⟨w, b, c, rfl⟩))
      | _ => exact .inr (.inr (.inl ⟨_, b, c, rfl, rfl⟩))
    · exact .inr (.inl ⟨xs, rfl, h⟩)
  | _ => exact .inl rfl
theorem termB_leaf {k : Nat} {d : PyData} (h : leafB d = true) : termB k d = true := by cases k <;> simp [termB, h]
theorem termB_no {k : Nat} {d : PyData} (h : leafB d = false) (ht : ∀ w a b, d ≠ .tuple [.str w, a, b]) : termB k d = false := by
  cases k with
  | zero => exact h
  | succ i =>
    simp only [termB, h, Bool.false_or]
    try (split <;> first | exact absurd rfl (ht _ _ _) | rfl)
theorem depF_leaf {k : Nat} {d : PyData} (h : leafB d = true) : depF k d = 0 := by cases k <;> simp [depF, h]
theorem depF_no {k : Nat} {d : PyData} (h : leafB d = false) (ht : ∀ w a b, d ≠ .tuple [.str w, a, b]) : depF k d = 9 := by
  cases k with
  | zero => simp [depF, h]
  | succ i =>
    simp only [depF, h]
    try rw [if_neg (by decide)]
    try (split <;> first | exact absurd rfl (ht _ _ _) | rfl)
theorem within_is (C : TermP P) : ∀ {k m : Nat}, k + 2 < m → ∀ {n : Nat} {d : PyData}, Tn L n d → Is (callN P m "is_term_within" [.d d, .d (.int (k : Nat))]) st (.d (.bool (termB k d))) := by
  intro k
  induction k with
  | zero =>
    intro m hm n d h
    refine C.within.is (k := 2) (by omega) fun m' hm' => ?_
    show SWp _ [some (.d d), some (.d (.int (0 : Nat))), none, none, none] _ _ _
    unfold b_t_is_term_within
    have w := fun (Q : Vl → Sto → Prop) => (worth_is (st := st) C (m := m') (by omega) (d := d)).wp (Q := Q)
    have nm := fun (Q : Vl → Sto → Prop) => (name_is (st := st) C (m := m') (by omega) h.sx).wp (Q := Q)
    ktr_call w nm
    simp only [termB, leafB]
    cases worthB d <;> cases nameB d <;> simp
  | succ k ih =>
    intro m hm n d h
    refine C.within.is (k := k + 3) (by omega) fun m' hm' => ?_
    show SWp _ [some (.d d), some (.d (.int ((k + 1 : Nat) : Int))), none, none, none] _ _ _
    unfold b_t_is_term_within
    have w := fun (Q : Vl → Sto → Prop) => (worth_is (st := st) C (m := m') (by omega) (d := d)).wp (Q := Q)
    have nm := fun (Q : Vl → Sto → Prop) => (name_is (st := st) C (m := m') (by omega) h.sx).wp (Q := Q)
    have nz : (((k + 1 : Nat) : Int) = 0) = False := eq_false (by omega)
    by_cases hl : leafB d = true
    · rw [termB_leaf hl]
      unfold leafB at hl
      cases hw : worthB d with
      | true =>
        rw [hw] at w
        ktr_call (And.intro w nm) nz
      | false =>
        have hn : nameB d = true := by rw [hw, Bool.false_or] at hl; exact hl
        rw [hw] at w
        rw [hn] at nm
        ktr_call (And.intro w nm) nz
    · have hl2 : leafB d = false := by simpa using hl
      have hw : worthB d = false := by unfold leafB at hl2; cases e : worthB d <;> simp_all
      have hn : nameB d = false := by unfold leafB at hl2; cases e : nameB d <;> simp_all
      rw [hw] at w
      rw [hn] at nm
      rcases shapeD d with q | ⟨xs, rfl, q⟩ | ⟨a, b, c, rfl, q⟩ | ⟨x, b, c, rfl⟩
      · rw [termB_no hl2 (fun _ _ _ e => by rw [e] at q; cases q)]
        ktr_call (And.intro w nm) (And.intro nz q)
      · rw [termB_no hl2 (fun _ _ _ e => by cases e; exact q rfl)]
        have ql : ((xs.length : Int) = 3) = False := eq_false (by omega)
        ktr_call (And.intro w nm) (And.intro nz ql)
      · rw [termB_no hl2 (fun _ _ _ e => by cases e; cases q)]
        ktr_call (And.intro w nm) (And.intro nz q)
      · obtain ⟨j, rfl, ha, hb, hc⟩ := h.tup
        have hx : PyData.strOk x = true := ha.sx.1
        have e1 := fun (s : String) (t : Sto) (Q : Vl → Sto → Prop) => @oq_eqW t x hx s Q
        have nb := fun (Q : Vl → Sto → Prop) => (name_is (st := st) C (m := m') (by omega) hb.sx).wp (Q := Q)
        have op := fun (Q : Vl → Sto → Prop) => (op_is (st := st) C (m := m') (by omega) (x := x)).wp (Q := Q)
        have ib := fun (Q : Vl → Sto → Prop) => (ih (m := m') (by omega) hb).wp (Q := Q)
        have ic := fun (Q : Vl → Sto → Prop) => (ih (m := m') (by omega) hc).wp (Q := Q)
        have nx : ((k + 1 : Nat) : Int) - 1 = (k : Nat) := by omega
        ktr_call (And.intro (And.intro w nm) (And.intro nz nx)) (And.intro (And.intro nb e1) (And.intro op (And.intro ib ic)))
        rw [termB_tup]
        by_cases hx : x = Str.ofString "at"
        · rw [if_pos hx, if_pos hx]
          cases nameB b <;> simp
        · rw [if_neg hx, if_neg hx]
          cases opB x <;> cases termB k b <;> simp
theorem term_is (C : TermP P) {m : Nat} (hm : 7 < m) {n : Nat} {d : PyData} (h : Tn L n d) : Is (callN P m "is_term" [.d d]) st (.d (.bool (termB 4 d))) := by
  refine C.term.is (k := 7) hm fun m' hm' => ?_
  show SWp _ [some (.d d)] _ _ _
  unfold b_t_is_term
  have w : ∀ Q : Vl → Sto → Prop, Wp (callN P m' (Str.ofString "is_term_within") [.d d, .d (.int 4)]) st Q = _ := fun Q => (within_is (st := st) C (k := 4) (m := m') (by omega) h).wp (Q := Q)
  ktr_call w trivial
theorem oq_ninOps {x : Str} (hx : PyData.strOk x = true) {t : Sto} {Q : Vl → Sto → Prop} : OptQ (cmpP .NotIn (.d (.str x)) (.d (.list [.str (Str.ofString "+"), .str (Str.ofString "-"), .str (Str.ofString "*"), .str (Str.ofString "<"), .str (Str.ofString "=")])) t) Q = Q (.d (.bool (!opB x))) t := by
  have h := oq_ninE (st := t) (Q := Q) EncOk.str (by decide) (a := x) (l := [Str.ofString "+", Str.ofString "-", Str.ofString "*", Str.ofString "<", Str.ofString "="]) hx (by simp [strOk_ofS])
  rw [opB_mem, ← h]
  rfl
theorem depth_is (C : TermP P) : ∀ {n m : Nat}, n + 1 < m → ∀ {d : PyData}, Tn L n d → Is (callN P m "_law_depth" [.d d]) st (.d (.int (depF n d : Nat))) := by
  intro n
  induction n using Nat.strongRecOn with
  | ind n ih =>
    intro m hm d h
    refine C.depth.is (k := n + 1) (by omega) fun m' hm' => ?_
    show SWp _ [some (.d d)] _ _ _
    unfold b_t__law_depth
    have w := fun (Q : Vl → Sto → Prop) => (lworth_is (st := st) C (m := m') (by omega) (d := d)).wp (Q := Q)
    have nm := fun (Q : Vl → Sto → Prop) => (lname_is (st := st) C (m := m') (by omega) h.sx).wp (Q := Q)
    by_cases hl : leafB d = true
    · rw [depF_leaf hl]
      unfold leafB at hl
      cases hw : worthB d with
      | true =>
        rw [hw] at w
        ktr_call (And.intro w nm) trivial
        try rfl
      | false =>
        have hn : nameB d = true := by rw [hw, Bool.false_or] at hl; exact hl
        rw [hw] at w
        rw [hn] at nm
        ktr_call (And.intro w nm) trivial
        try rfl
    · have hl2 : leafB d = false := by simpa using hl
      have hw : worthB d = false := by unfold leafB at hl2; cases e : worthB d <;> simp_all
      have hn : nameB d = false := by unfold leafB at hl2; cases e : nameB d <;> simp_all
      rw [hw] at w
      rw [hn] at nm
      rcases shapeD d with q | ⟨xs, rfl, q⟩ | ⟨a, b, c, rfl, q⟩ | ⟨x, b, c, rfl⟩
      · rw [depF_no hl2 (fun _ _ _ e => by rw [e] at q; cases q)]
        ktr_call (And.intro w nm) q
        try rfl
      · rw [depF_no hl2 (fun _ _ _ e => by cases e; exact q rfl)]
        have ql : ((xs.length : Int) = 3) = False := eq_false (by omega)
        ktr_call (And.intro w nm) ql
        try rfl
      · rw [depF_no hl2 (fun _ _ _ e => by cases e; cases q)]
        ktr_call (And.intro w nm) q
        try rfl
      · obtain ⟨j, rfl, ha, hb, hc⟩ := h.tup
        have hx : PyData.strOk x = true := ha.sx.1
        have e1 := fun (s : String) (t : Sto) (Q : Vl → Sto → Prop) => @oq_eqW t x hx s Q
        have e2 := fun (t : Sto) (Q : Vl → Sto → Prop) => @oq_ninOps x hx t Q
        have nb := fun (Q : Vl → Sto → Prop) => (lname_is (st := st) C (m := m') (by omega) hb.sx).wp (Q := Q)
        have ib := fun (Q : Vl → Sto → Prop) => (@ih j (by omega) m' (by omega) b hb).wp (Q := Q)
        have ic := fun (Q : Vl → Sto → Prop) => (@ih j (by omega) m' (by omega) c hc).wp (Q := Q)
        ktr_call (And.intro w nm) (And.intro (And.intro nb e1) (And.intro e2 (And.intro ib ic)))
        rw [depF_tup]
        by_cases hx : x = Str.ofString "at"
        · rw [if_pos hx, if_pos hx]
          cases nameB b <;> simp
        · rw [if_neg hx, if_neg hx]
          cases opB x <;> simp <;> omega
theorem told_is (C : TermP P) {m n : Nat} (hm : 8 < m) (hn : n + 2 < m) {d : PyData} (h : Tn L n d) : Is (callN P m "_law_told" [.d d]) st (.d (.bool true)) := by
  refine C.told.is (k := max 8 (n + 2)) (by omega) fun m' hm' => ?_
  show SWp _ [some (.d d), none] _ _ _
  unfold b_t__law_told
  have hd : decide (((depF n d : Nat) : Int) < 5) = termB 4 d := by rw [term_dep n 4 d (by decide) h]; exact decide_eq_decide.mpr (by omega)
  have de := fun (Q : Vl → Sto → Prop) => (depth_is (st := st) C (m := m') (by omega) h).wp (Q := Q)
  have te := fun (Q : Vl → Sto → Prop) => (term_is (st := st) C (m := m') (by omega) h).wp (Q := Q)
  have ln := fun (Q : Vl → Sto → Prop) => (lname_is (st := st) C (m := m') (by omega) h.sx).wp (Q := Q)
  have nm := fun (Q : Vl → Sto → Prop) => (name_is (st := st) C (m := m') (by omega) h.sx).wp (Q := Q)
  have lw := fun (Q : Vl → Sto → Prop) => (lworth_is (st := st) C (m := m') (by omega) (d := d)).wp (Q := Q)
  have ww := fun (Q : Vl → Sto → Prop) => (worth_is (st := st) C (m := m') (by omega) (d := d)).wp (Q := Q)
  ktr_call (And.intro (And.intro de te) (And.intro ln nm)) (And.intro (And.intro lw ww) hd)
  have tm : Tm 1 100 (.list [.bool (termB 4 d), .bool (nameB d), .bool (worthB d)]) := (Tm.list (k := 0) (w := 5) (n := 3) (fun x hx => by
    simp only [List.mem_cons, List.not_mem_nil, or_false] at hx
    rcases hx with rfl | rfl | rfl <;> exact Tm.bool_) (by simp)).mono (by decide) (by decide)
  have re := fun s (Q : Vl → Sto → Prop) => @oq_repr s Q _ _ _ tm (by decide) (by decide)
  have eqS := fun s (Q : Vl → Sto → Prop) => @oq_eqS2 s Q _ _ tm.sok tm.sok
  ktr_call (And.intro re eqS) decide_true
end
end Iv
set_option Elab.async false
set_option linter.all false
set_option maxRecDepth 100000
set_option maxHeartbeats 2000000
/-! Wt3: terms that are drawn, sound ones and others. -/
namespace Iv
open PySem
local macro_rules   | `(tactic| ktr_call $a:term $b:term) => `(tactic| simp (config := { maxSteps := 400000, failIfUnchanged := false, implicitDefEqProofs := false }) only [↓sw_forS, ↓wp_lcG, ↓wp_itV, ↓wp_itR1, ↓wp_itR2, ↓it_l, ↓it_t, ↓it_pL, ↓it_pT, ↓it_iL, ↓it_iT, ↓it_rD, ↓it_ref, ↓it_r1, ↓it_r2, ↓en_t, ↓en_l, ↓en_rD, ↓en_pL, ↓en_iL, ↓en_iT, ↓stw_nil, ↓stw_stw, List.append_nil, ↓sw_bad, ↓sw_seq, ↓sw_next, ↓sw_set, ↓sw_ret, ↓sw_retN, ↓sw_drop, ↓sw_if, ↓sw_sub, ↓sw_asg, ↓sw_par, ↓wp_bind, ↓wp_ret, ↓wp_cM, ↓wp_nil, ↓wp_cons, ↓wp_v0, ↓wp_vs, ↓wp_ty, ↓wp_gl, ↓wp_bin, ↓wp_un, ↓wp_callP, ↓wp_callF, ↓wp_g1, ↓wp_g2, ↓wp_g3, ↓wp_g4,       ↓wp_bM, ↓wp_asB, ↓wp_notM, ↓wp_orM, ↓wp_andM, ↓wp_tst, ↓wp_trub, ↓tru_int, ↓tru_none, ↓tru_list, ↓tru_tuple, ↓wp_andV, ↓wp_orV, ↓wp_notV, ↓wp_ifV, ↓wp_chain, ↓wp_frzD, ↓wp_tupM, ↓oq_tuple0, ↓wp_lstM, ↓wp_lstC, ↓frzs_nil, ↓frzs_cons, ↓frzs_ref, ↓wp_retL', ↓wp_retT', ↓wp_newC', ↓wp_meth1, ↓wp_meth2, ↓wp_isL, ↓oq_append, ↓oq_pop, ↓pl_ref, ↓ix_ref', ↓ex_lst, ex_lst, List.getElem?_cons_zero, List.getElem?_cons_succ, ↓ls_r, ↓ls_0, ↓ls_1, ↓ls_2, ↓stw_r, ↓stw_k, ↓stw_k0, ↓stw_set, ↓stw_setk, ↓stw_setk0, ↓stw_app, ↓stw_len, ↓stw_back, ↓stw_new,       ↓oq_l1, ↓oq_l2, ↓oq_add, ↓oq_sub, ↓oq_mul, ↓oq_neg, ↓oq_max, ↓oq_min, ↓oq_mod, ↓oq_fdiv, ↓oq_abs, ↓oq_intB, ↓oq_le, ↓oq_lt, ↓oq_ge, ↓oq_gt, ↓oq_eqI, ↓oq_neI, ↓oq_eqS', ↓ty_intsL, ↓ty_intsT, ↓ty_pairsT, ↓ty_pairsL, ↓ty_rowsD, ↓ty_rowD, ↓ty_pairD, ↓pl_pairsT, ↓pl_intsL, ↓pl_intsT, ↓pl_pairsL, ↓pl_rowsD, ↓oq_eqIs, ↓oq_neIs, ↓oq_inIs, ↓oq_ninIs, ↓pl_list, ↓pl_tuple, ↓oq_isi, ↓ix_tup, ↓ix_lst, ↓at_0, ↓at_1, ↓at_nat, ↓at_m1, ↓at_lit, ↓eq_ref, ↓en_ref, ↓drop_last, ↓get_last, ↓stw_new1, ↓oq_tupleR, ↓add_ll, ↓add_tt, ↓add_rl, ↓ne_nilT, ↓eq_nilI, ↓in_dictI, ↓ix_dictI, ↓on_some, ↓on_none, ↓on_map, ↓asgQ_some, ↓asgQ_none, ↓aName, ↓aTup_tup, ↓aTup_lst, ↓aCons_cons, ↓aNil_nil, ↓back_take, ↓back_set, ↓ty_int, ↓ty_bool, ↓ty_str, ↓ty_list, ↓ty_tuple, ↓isi_self, ↓isi_ib,       ↓List.set_cons_succ, ↓List.set_cons_zero, List.set_cons_succ, List.set_cons_zero, wp_v0, wp_vs, wipe_nil, wipe_cons, implies_true, forall_const, ↓wp_slM, ↓wp_noO, ↓wp_someO, ↓wp_asI, ↓sl_list, ↓sl_tuple, ↓Option.bind_some, ↓$a, ↓$b, decide_eq_true_eq, Bool.not_eq_true', decide_eq_false_iff_not, ↓reduceIte, true_and, and_true, if_true, if_false, List.length_cons, List.length_nil, List.length_map, ↓srt_ref, ↓srt_pL, Nat.add_zero, Nat.zero_add, List.nil_append, List.cons_append, List.zip_cons_cons, List.zip_nil_left, List.zip_nil_right, List.foldl_cons, List.foldl_nil, ne_eq, not_true_eq_false, not_false_eq_true, reduceCtorEq, Bool.true_eq_false, Bool.false_eq_true, Bool.not_true, Bool.not_false, Bool.not_not, Nat.reduceAdd, sizeLine_eq, Nat.reduceLeDiff, cast_lit, Int.reduceEq, Int.reduceLT, Int.reduceLE, Int.reduceNeg])
local macro_rules   | `(tactic| walk_at "dec") => `(tactic| (repeat' split) <;> first | exact (decide_eq_true (by omega)).symm | exact (decide_eq_false (by omega)).symm | exact decide_eq_decide.mpr (by omega) | exact decide_eq_true (by omega) | exact decide_eq_false (by omega)) 
def b_t__law_leaf (c : Str → List Vl → M Vl) : S := (seqS (setS 1 (lstM (consM (kI 0) (consM (kI 255) (consM (kI 256) (consM (un pNeg1 (kI 1)) (consM (cM (.str "x")) (consM (cM (.str "abcdef")) (consM (cM (.str "abcdefg")) (consM (cM (.str "at")) (consM (cM (.str "att")) (consM (cM (.str "")) (consM (cM (.str "X")) (consM (cM (.str "x1")) (consM (cM (.str "x ")) (consM (cM (.bool true)) (consM (cM .none) (consM (bin pPow2 (kI 10) (kI 39)) nilM))))))))))))))))))
  (seqS (retS (bin pIxA2 (lstM (consM (callF 2 (c "_law_take") (consM (varM 0) (consM (kI 256) nilM))) (consM (cM (.str "y")) (consM (cM (.str "set")) (consM (bin pIxA2 (varM 1) (callF 2 (c "_law_take") (consM (varM 0) (consM (kI 16) nilM)))) nilM))))) (callF 2 (c "_law_take") (consM (varM 0) (consM (kI 4) nilM)))))
  nextS))
def b_t__law_any_term (c : Str → List Vl → M Vl) : S := (seqS (ifS (orM (bM (bin (cmpP .Lt) (varM 1) (kI 1))) (bM (bin (cmpP .Eq) (callF 2 (c "_law_take") (consM (varM 0) (consM (kI 6) nilM))) (kI 0)))) (seqS (retS (callF 1 (c "_law_leaf") (consM (varM 0) nilM)))
  nextS) nextS)
  (seqS (setS 2 (bin pIxA2 (lstM (consM (cM (.str "+")) (consM (cM (.str "-")) (consM (cM (.str "*")) (consM (cM (.str "<")) (consM (cM (.str "=")) (consM (cM (.str "at")) (consM (cM (.str "at")) (consM (cM (.str "/")) (consM (cM (.str "+")) nilM)))))))))) (bin pMod2 (callF 2 (c "_law_take") (consM (varM 0) (consM (kI 9) nilM))) (bin pAdd2 (kI 7) (callF 2 (c "_law_take") (consM (varM 0) (consM (kI 3) nilM)))))))
  (seqS (ifS (bM (bin (cmpP .Eq) (varM 2) (cM (.str "at")))) (seqS (retS (tupM (consM (varM 2) (consM (bin pIxA2 (lstM (consM (cM (.str "a")) (consM (cM (.str "b")) (consM (cM (.str "at")) (consM (kI 3) (consM (cM (.str "x")) nilM)))))) (callF 2 (c "_law_take") (consM (varM 0) (consM (kI 5) nilM)))) (consM (callF 2 (c "_law_any_term") (consM (varM 0) (consM (bin pSub2 (varM 1) (kI 1)) nilM))) nilM)))))
  nextS) nextS)
  (seqS (setS 3 (callF 2 (c "_law_any_term") (consM (varM 0) (consM (bin pSub2 (varM 1) (kI 1)) nilM))))
  (seqS (retS (tupM (consM (varM 2) (consM (varM 3) (consM (bin pIxA2 (lstM (consM (callF 2 (c "_law_any_term") (consM (varM 0) (consM (bin pSub2 (varM 1) (kI 1)) nilM))) (consM (kI 0) (consM (cM (.str "x")) nilM)))) (callF 2 (c "_law_take") (consM (varM 0) (consM (kI 3) nilM)))) nilM)))))
  nextS)))))
def b_t__law_sound_term (c : Str → List Vl → M Vl) : S := (seqS (ifS (bM (bin (cmpP .Eq) (varM 1) (kI 0))) (seqS (retS (bin pIxA2 (lstM (consM (kI 0) (consM (kI 255) (consM (cM (.str "x")) (consM (cM (.str "end")) nilM))))) (callF 2 (c "_law_take") (consM (varM 0) (consM (kI 4) nilM)))))
  nextS) nextS)
  (seqS (setS 2 (bin pIxA2 (lstM (consM (cM (.str "+")) (consM (cM (.str "-")) (consM (cM (.str "*")) (consM (cM (.str "<")) (consM (cM (.str "=")) (consM (cM (.str "at")) nilM))))))) (callF 2 (c "_law_take") (consM (varM 0) (consM (kI 6) nilM)))))
  (seqS (setS 3 (callF 2 (c "_law_sound_term") (consM (varM 0) (consM (bin pSub2 (varM 1) (kI 1)) nilM))))
  (seqS (ifS (bM (bin (cmpP .Eq) (varM 2) (cM (.str "at")))) (seqS (retS (tupM (consM (varM 2) (consM (cM (.str "a")) (consM (varM 3) nilM)))))
  nextS) nextS)
  (seqS (setS 4 (callF 2 (c "_law_sound_term") (consM (varM 0) (consM (callF 2 (c "_law_take") (consM (varM 0) (consM (varM 1) nilM))) nilM))))
  (seqS (retS (bin pIxA2 (lstM (consM (tupM (consM (varM 2) (consM (varM 3) (consM (varM 4) nilM)))) (consM (tupM (consM (varM 2) (consM (varM 4) (consM (varM 3) nilM)))) nilM))) (callF 2 (c "_law_take") (consM (varM 0) (consM (kI 2) nilM)))))
  nextS))))))
def b_t__law_spoilt (c : Str → List Vl → M Vl) : S := (seqS (setS 2 (lstM (consM (cM .none) (consM (cM (.bool true)) (consM (lstM nilM) (consM (tupM nilM) (consM (fun _ => ret (.d (.dict []))) (consM (cM (.str "")) (consM (cM (.str "at")) (consM (kI 256) (consM (cM (.str "+")) (consM (kI 0) (consM (tupM (consM (cM (.str "+")) (consM (kI 0) (consM (kI 0) nilM)))) (consM (lstM (consM (cM (.str "x")) nilM)) nilM))))))))))))))
  (seqS (setS 3 (bin pIxA2 (varM 2) (callF 2 (c "_law_take") (consM (varM 0) (consM (kI 12) nilM)))))
  (seqS (setS 4 (callF 2 (c "_law_take") (consM (varM 0) (consM (kI 9) nilM))))
  (seqS (ifS (orM (notM (tst (callP pIsi (consM (varM 1) (consM (tyM .tup) nilM))))) (orM (bM (bin pEqN2 (varM 1) (tupM nilM))) (bM (bin (cmpP .Eq) (varM 4) (kI 0))))) (seqS (retS (varM 3))
  nextS) nextS)
  (seqS (setS 5 (callF 2 (c "_law_take") (consM (varM 0) (consM (callP (l1 pLenA1) (consM (varM 1) nilM)) nilM))))
  (seqS (ifS (bM (bin (cmpP .Lt) (varM 4) (kI 6))) (seqS (retS (bin pAdd2 (bin pAdd2 (slM (varM 1) noO (someO (varM 5))) (tupM (consM (callF 2 (c "_law_spoilt") (consM (varM 0) (consM (bin pIxA2 (varM 1) (varM 5)) nilM))) nilM))) (slM (varM 1) (someO (bin pAdd2 (varM 5) (kI 1))) noO)))
  nextS) nextS)
  (seqS (retS (bin pIxA2 (lstM (consM (bin pAdd2 (slM (varM 1) noO (someO (varM 5))) (slM (varM 1) (someO (bin pAdd2 (varM 5) (kI 1))) noO)) (consM (bin pAdd2 (bin pAdd2 (slM (varM 1) noO (someO (varM 5))) (tupM (consM (varM 3) nilM))) (slM (varM 1) (someO (varM 5)) noO)) (consM (callP pList (consM (varM 1) nilM)) nilM)))) (bin pSub2 (varM 4) (kI 6))))
  nextS)))))))
structure DrawT (P : Pg) : Prop extends TermP P where
  take : HasB P "_law_take" 5 fun _ => takeB
  leaf : HasB P "_law_leaf" 2 b_t__law_leaf
  anyT : HasB P "_law_any_term" 4 b_t__law_any_term
  soundT : HasB P "_law_sound_term" 5 b_t__law_sound_term
  spoilt : HasB P "_law_spoilt" 6 b_t__law_spoilt
variable {L : Nat}
theorem Tn.mono {n : Nat} {d : PyData} (h : Tn L n d) : Tn L (n + 1) d := by
  induction n generalizing d with
  | zero =>
    cases d with
    | tuple xs =>
      unfold Tn at h ⊢
      dsimp only at h ⊢
      subst h
      exact ⟨Nat.zero_le _, fun y hy => by cases hy⟩
    | str x => exact h
    | _ => trivial
  | succ n ih =>
    cases d with
    | tuple xs =>
      unfold Tn at h ⊢
      exact ⟨h.1, fun y hy => ih (h.2 y hy)⟩
    | str x => exact h
    | _ => trivial
theorem Tn.le {n k : Nat} {d : PyData} (h : Tn L n d) (l : n ≤ k) : Tn L k d := by
  induction k with
  | zero => have : n = 0 := by omega
            subst this; exact h
  | succ k ih =>
    by_cases e : n = k + 1
    · subst e; exact h
    · exact (ih (by omega)).mono
theorem Tn.wide {L' n : Nat} {d : PyData} (h : Tn L n d) (l : L ≤ L') : Tn L' n d := by
  induction n generalizing d with
  | zero => cases d <;> exact h
  | succ n ih =>
    cases d with
    | tuple xs =>
      unfold Tn at h ⊢
      exact ⟨Nat.le_trans h.1 l, fun y hy => ih (h.2 y hy)⟩
    | str x => exact h
    | _ => trivial
theorem Tn.s {n : Nat} (s : String) (h : (Str.ofString s).length ≤ 100 := by decide +kernel) : Tn L n (.str (Str.ofString s)) := by
  cases n <;> exact ⟨strOk_ofS s, h⟩
theorem Tn.i {n : Nat} {i : Int} : Tn L n (.int i) := by cases n <;> trivial
theorem Tn.b {n : Nat} {i : Bool} : Tn L n (.bool i) := by cases n <;> trivial
theorem Tn.n {n : Nat} : Tn L n .none := by cases n <;> trivial
theorem Tn.l {n : Nat} {xs : List PyData} : Tn L n (.list xs) := by cases n <;> trivial
theorem Tn.k {n : Nat} {xs : DKv} : Tn L n (.dict xs) := by cases n <;> trivial
theorem Tn.t3 {n : Nat} {a b c : PyData} (h0 : 3 ≤ L) (h1 : Tn L n a) (h2 : Tn L n b) (h3 : Tn L n c) : Tn L (n + 1) (.tuple [a, b, c]) := by
  unfold Tn
  refine ⟨h0, fun y hy => ?_⟩
  simp only [List.mem_cons, List.not_mem_nil, or_false] at hy
  rcases hy with rfl | rfl | rfl <;> assumption
/-- an item of a list that is written -/
theorem on_in {xs : List PyData} {i : Int} {K : PyData → Prop} (h0 : 0 ≤ i) (h1 : i < xs.length) (k : ∀ d ∈ xs, K d) : ON (L2.atI xs i) K := by
  obtain ⟨n, rfl⟩ : ∃ n : Nat, i = n := ⟨i.toNat, by omega⟩
  have hn : n < xs.length := by omega
  rw [at_nat, List.getElem?_eq_getElem hn]
  exact k _ (List.getElem_mem hn)
section
variable {P : Pg} {st : Sto} {cs : List Cell} {p : List PyData} {r : Nat}
theorem take_t (C : DrawT P) {m B : Nat} {n : Int} {Q : Vl → Sto → Prop} (hm : 0 < m) (hr : r < st.length) (hp : Pot B p) (hb : B ≤ 1000000000000) (h0 : 0 < n) (h2 : n ≤ 10000000000000000000000000000000000000000)
    (h : ∀ d p', 0 ≤ d → d < n → Pot (B + 1) p' → Q (.d (.int d)) (Stw st r p' cs)) : Wp (callN P m "_law_take" [.ref r, .d (.int n)]) (Stw st r p cs) Q := by
  refine take_wp C.take hm (stw_r hr) hp (Nat.le_trans hb (by decide)) h0 (Int.lt_of_le_of_lt h2 (by decide)) fun d p' a1 a2 a3 => ?_
  rw [stw_set hr]
  exact h d p' a1 a2 a3
theorem pw39 {st : Sto} {Q : Vl → Sto → Prop} : OptQ (pPow2 (.d (.int 10)) (.d (.int 39)) st) Q = Q (.d (.int (10 ^ 39))) st := by
  rw [oq_pow]
  have : (0 ≤ (39 : Int) ∧ (Builtin.Int.intBits 10 : Int) * 39 ≤ 2 ^ 27) = True := eq_true (by decide +kernel)
  rw [this, true_and]
  rfl
theorem leaf_w (C : DrawT P) {m B : Nat} {Q : Vl → Sto → Prop} (hm : 1 < m) (hr : st[r]? = some (.lst p)) (hp : Pot B p) (hb : B ≤ 100000000000)
    (h : ∀ d p', Tn L 0 d → Pot (B + 3) p' → Q (.d d) (Stw st r p' [])) : Wp (callN P m "_law_leaf" [.ref r]) st Q := by
  refine C.leaf.pot (k := 1) hm hr fun m' hm' hl => ?_
  show SWp _ [some (.ref r), none] _ _ _
  unfold b_t__law_leaf
  ktr_call hl (@pw39)
  refine take_t C (by omega) hl hp (by omega) (by omega) (by omega) fun d1 p1 a0 a1 hp1 => ?_
  ktr_call hl trivial
  refine take_t C (by omega) hl hp1 (by omega) (by omega) (by omega) fun d2 p2 b0 b1 hp2 => ?_
  ktr_call hl trivial
  refine on_in b0 (by simpa using b1) fun d hd => ?_
  have td : Tn L 0 d := by
    simp only [List.mem_cons, List.not_mem_nil, or_false] at hd
    rcases hd with rfl | rfl | rfl | rfl | rfl | rfl | rfl | rfl | rfl | rfl | rfl | rfl | rfl | rfl | rfl | rfl <;> first | exact Tn.s _ | exact Tn.i | exact Tn.b | exact Tn.n
  ktr_call hl trivial
  refine take_t C (by omega) hl hp2 (by omega) (by omega) (by omega) fun d3 p3 c0 c1 hp3 => ?_
  ktr_call hl trivial
  refine on_in c0 (by simpa using c1) fun e he => ?_
  have te : Tn L 0 e := by
    simp only [List.mem_cons, List.not_mem_nil, or_false] at he
    rcases he with rfl | rfl | rfl | rfl <;> first | exact td | exact Tn.s _ | exact Tn.i
  ktr_call hl trivial
  exact h e p3 te hp3
/-- draws at most -/
def bt : Nat → Nat
  | 0 => 10
  | n + 1 => 6 + 2 * bt n + 10
theorem bt_lt {i j : Nat} (h : i ≤ j) : bt i ≤ bt j := by
  induction j with
  | zero => have : i = 0 := by omega
            subst this; exact Nat.le_refl _
  | succ j ih =>
    by_cases e : i = j + 1
    · subst e; exact Nat.le_refl _
    · have := ih (by omega)
      simp only [bt]
      omega
theorem ops9 (d : PyData) (hd : d ∈ [PyData.str (Str.ofString "+"), .str (Str.ofString "-"), .str (Str.ofString "*"), .str (Str.ofString "<"), .str (Str.ofString "="), .str (Str.ofString "at"), .str (Str.ofString "at"), .str (Str.ofString "/"), .str (Str.ofString "+")]) : ∃ s, d = .str (Str.ofString s) ∧ (Str.ofString s).length ≤ 100 := by
  simp only [List.mem_cons, List.not_mem_nil, or_false] at hd
  rcases hd with rfl | rfl | rfl | rfl | rfl | rfl | rfl | rfl | rfl <;> exact ⟨_, rfl, by decide +kernel⟩
theorem anyT_w (C : DrawT P) (hL : 3 ≤ L) : ∀ {k m B : Nat} {st : Sto} {p : List PyData} {Q : Vl → Sto → Prop}, k + 2 < m → st[r]? = some (.lst p) → Pot B p → B + bt k ≤ 100000000000 →
    (∀ d p', Tn L k d → Pot (B + bt k) p' → Q (.d d) (Stw st r p' [])) → Wp (callN P m "_law_any_term" [.ref r, .d (.int (k : Nat))]) st Q := by
  intro k
  induction k with
  | zero =>
    intro m B st p Q hm hr hp hb h
    refine C.anyT.pot (k := 2) (by omega) hr fun m' hm' hl => ?_
    show SWp _ [some (.ref r), some (.d (.int (0 : Nat))), none, none] _ _ _
    unfold b_t__law_any_term
    simp only [bt] at hb h
    have z : ((0 : Nat) : Int) < 1 := by decide
    ktr_call hl (eq_true z)
    refine leaf_w (L := L) C (by omega) (stw_r hl) hp (by omega) fun d p2 td hp2 => ?_
    ktr_call hl trivial
    exact h d p2 td (hp2.mono (by omega))
  | succ k ih =>
    intro m B st p Q hm hr hp hb h
    refine C.anyT.pot (k := k + 3) (by omega) hr fun m' hm' hl => ?_
    show SWp _ [some (.ref r), some (.d (.int ((k + 1 : Nat) : Int))), none, none] _ _ _
    unfold b_t__law_any_term
    simp only [bt] at hb h
    have nz : (((k + 1 : Nat) : Int) < 1) = False := eq_false (by omega)
    have nx : ((k + 1 : Nat) : Int) - 1 = (k : Nat) := by omega
    ktr_call hl nz
    refine take_t C (by omega) hl hp (by omega) (by omega) (by omega) fun d0 p0 a0 a1 hp0 => ?_
    ktr_call hl trivial
    by_cases hz : d0 = 0
    · rw [if_pos hz]
      refine leaf_w (L := L) C (by omega) (stw_r hl) hp0 (by omega) fun d p2 td hp2 => ?_
      ktr_call hl trivial
      exact h d p2 (td.le (by omega)) (hp2.mono (by omega))
    · rw [if_neg hz]
      refine take_t C (by omega) hl hp0 (by omega) (by omega) (by omega) fun d1 p1 b0 b1 hp1 => ?_
      ktr_call hl trivial
      refine take_t C (by omega) hl hp1 (by omega) (by omega) (by omega) fun d2 p2 c0 c1 hp2 => ?_
      ktr_call hl trivial
      refine ⟨by omega, ?_⟩
      have e0 : 0 ≤ d1 % (7 + d2) := Int.emod_nonneg _ (by omega)
      have e1 : d1 % (7 + d2) < 9 := Int.lt_of_lt_of_le (Int.emod_lt_of_pos _ (by omega)) (by omega)
      refine on_in e0 (by simpa using e1) fun d hd => ?_
      obtain ⟨s, rfl, hs⟩ := ops9 d hd
      ktr_call hl trivial
      by_cases ha : s = "at"
      · rw [if_pos ha]
        refine take_t C (by omega) hl hp2 (by omega) (by omega) (by omega) fun d3 p3 f0 f1 hp3 => ?_
        ktr_call hl trivial
        refine on_in f0 (by simpa using f1) fun e he => ?_
        have te : Tn L k e := by
          simp only [List.mem_cons, List.not_mem_nil, or_false] at he
          rcases he with rfl | rfl | rfl | rfl | rfl <;> first | exact Tn.s _ | exact Tn.i
        ktr_call hl nx
        refine ih (by omega) (stw_r hl) hp3 (by omega) fun g p4 tg hp4 => ?_
        ktr_call hl trivial
        exact h _ _ (Tn.t3 hL (Tn.s s hs) te tg) (hp4.mono (by omega))
      · rw [if_neg ha]
        ktr_call hl nx
        refine ih (by omega) (stw_r hl) hp2 (by omega) fun g p4 tg hp4 => ?_
        ktr_call hl nx
        refine ih (by omega) (stw_r hl) hp4 (by omega) fun g2 p5 tg2 hp5 => ?_
        ktr_call hl trivial
        refine take_t C (by omega) hl hp5 (by omega) (by omega) (by omega) fun d3 p3 f0 f1 hp3 => ?_
        ktr_call hl trivial
        refine on_in f0 (by simpa using f1) fun e he => ?_
        have te : Tn L k e := by
          simp only [List.mem_cons, List.not_mem_nil, or_false] at he
          rcases he with rfl | rfl | rfl <;> first | exact tg2 | exact Tn.s _ | exact Tn.i
        ktr_call hl trivial
        exact h _ _ (Tn.t3 hL (Tn.s s hs) tg te) (hp3.mono (by omega))
theorem ops6 (d : PyData) (hd : d ∈ [PyData.str (Str.ofString "+"), .str (Str.ofString "-"), .str (Str.ofString "*"), .str (Str.ofString "<"), .str (Str.ofString "="), .str (Str.ofString "at")]) : ∃ s, d = .str (Str.ofString s) ∧ (Str.ofString s).length ≤ 100 := by
  simp only [List.mem_cons, List.not_mem_nil, or_false] at hd
  rcases hd with rfl | rfl | rfl | rfl | rfl | rfl <;> exact ⟨_, rfl, by decide +kernel⟩
theorem soundT_w (C : DrawT P) (hL : 3 ≤ L) : ∀ {k m B : Nat} {st : Sto} {p : List PyData} {Q : Vl → Sto → Prop}, k ≤ 100 → k + 1 < m → st[r]? = some (.lst p) → Pot B p → B + bt k ≤ 100000000000 →
    (∀ d p', Tn L k d → Pot (B + bt k) p' → Q (.d d) (Stw st r p' [])) → Wp (callN P m "_law_sound_term" [.ref r, .d (.int (k : Nat))]) st Q := by
  intro k
  induction k using Nat.strongRecOn with
  | ind k ih =>
    intro m B st p Q hk hm hr hp hb h
    refine C.soundT.pot (k := k + 1) (by omega) hr fun m' hm' hl => ?_
    show SWp _ [some (.ref r), some (.d (.int (k : Nat))), none, none, none] _ _ _
    unfold b_t__law_sound_term
    cases k with
    | zero =>
      simp only [bt] at hb h
      ktr_call hl trivial
      refine take_t C (by omega) hl hp (by omega) (by omega) (by omega) fun d1 p1 b0 b1 hp1 => ?_
      ktr_call hl trivial
      refine on_in b0 (by simpa using b1) fun e he => ?_
      have te : Tn L 0 e := by
        simp only [List.mem_cons, List.not_mem_nil, or_false] at he
        rcases he with rfl | rfl | rfl | rfl <;> first | exact Tn.s _ | exact Tn.i
      ktr_call hl trivial
      exact h _ _ te (hp1.mono (by omega))
    | succ k =>
      simp only [bt] at hb h
      have nz : (((k + 1 : Nat) : Int) = 0) = False := eq_false (by omega)
      have nx : ((k + 1 : Nat) : Int) - 1 = (k : Nat) := by omega
      ktr_call hl nz
      refine take_t C (by omega) hl hp (by omega) (by omega) (by omega) fun d1 p1 b0 b1 hp1 => ?_
      ktr_call hl trivial
      refine on_in b0 (by simpa using b1) fun d hd => ?_
      obtain ⟨s, rfl, hs⟩ := ops6 d hd
      ktr_call hl nx
      refine ih k (by omega) (by omega) (by omega) (stw_r hl) hp1 (by omega) fun g p4 tg hp4 => ?_
      ktr_call hl trivial
      by_cases ha : s = "at"
      · rw [if_pos ha]
        ktr_call hl trivial
        exact h _ _ (Tn.t3 hL (Tn.s s hs) (Tn.s "a") tg) (hp4.mono (by omega))
      · rw [if_neg ha]
        refine take_t C (by omega) hl hp4 (by omega) (by omega) (by omega) fun d3 p3 f0 f1 hp3 => ?_
        obtain ⟨j, rfl⟩ : ∃ j : Nat, d3 = j := ⟨d3.toNat, by omega⟩
        have bj := bt_lt (show j ≤ k by omega)
        ktr_call hl trivial
        refine ih j (by omega) (by omega) (by omega) (stw_r hl) hp3 (by omega) fun g2 p5 tg2 hp5 => ?_
        ktr_call hl trivial
        refine take_t C (by omega) hl hp5 (by omega) (by omega) (by omega) fun d6 p6 e0 e1 hp6 => ?_
        ktr_call hl trivial
        refine on_in e0 (by simpa using e1) fun e he => ?_
        have te : Tn L (k + 1) e := by
          simp only [List.mem_cons, List.not_mem_nil, or_false] at he
          rcases he with rfl | rfl
          · exact Tn.t3 hL (Tn.s s hs) tg (tg2.le (by omega))
          · exact Tn.t3 hL (Tn.s s hs) (tg2.le (by omega)) tg
        ktr_call hl trivial
        exact h _ _ te (hp6.mono (by omega))
theorem eqN {st : Sto} {xs : List PyData} {Q : Vl → Sto → Prop} : OptQ (pEqN2 (.d (.tuple xs)) (.d (.tuple [])) st) Q = Q (.d (.bool xs.isEmpty)) st := rfl
theorem oq_listT {st : Sto} {xs : List PyData} {Q : Vl → Sto → Prop} : OptQ (pList [.d (.tuple xs)] st) Q = Q (.d (.list xs)) st := rfl
theorem Tn.cut {n : Nat} {xs ys : List PyData} {k : Nat} (h : Tn L (n + 1) (.tuple xs)) (hk : k < xs.length) (hy : ∀ y ∈ ys, Tn L n y) (hz : ys.length ≤ 1) : Tn L (n + 1) (.tuple (xs.take k ++ ys ++ xs.drop (k + 1))) := by
  unfold Tn at h ⊢
  refine ⟨by simp only [List.length_append, List.length_take, List.length_drop]; have := h.1; omega, fun y hy' => ?_⟩
  rw [List.mem_append, List.mem_append] at hy'
  rcases hy' with (q | q) | q
  · exact h.2 y (List.mem_of_mem_take q)
  · exact hy y q
  · exact h.2 y (List.mem_of_mem_drop q)
theorem Tn.ins {n : Nat} {xs : List PyData} {y : PyData} {k : Nat} (h : Tn L (n + 1) (.tuple xs)) (hk : k < xs.length) (hy : Tn (L + 1) n y) : Tn (L + 1) (n + 1) (.tuple (xs.take k ++ [y] ++ xs.drop k)) := by
  unfold Tn at h ⊢
  refine ⟨by simp only [List.length_append, List.length_take, List.length_drop, List.length_cons, List.length_nil]; have := h.1; omega, fun z hz => ?_⟩
  rw [List.mem_append, List.mem_append] at hz
  rcases hz with (q | q) | q
  · exact (h.2 z (List.mem_of_mem_take q)).wide (by omega)
  · rw [List.mem_singleton.mp q]; exact hy
  · exact (h.2 z (List.mem_of_mem_drop q)).wide (by omega)
theorem spoilt_w (C : DrawT P) (hL : 3 ≤ L) (hL2 : L ≤ 1000) : ∀ {n m B : Nat} {thing : PyData} {st : Sto} {p : List PyData} {Q : Vl → Sto → Prop}, n + 1 < m → st[r]? = some (.lst p) → Pot B p → B + 3 * n + 3 ≤ 100000000000 → Tn L n thing →
    (∀ d p', Tn (L + 1) (n + 1) d → Pot (B + 3 * n + 3) p' → Q (.d d) (Stw st r p' [])) → Wp (callN P m "_law_spoilt" [.ref r, .d thing]) st Q := by
  intro n
  induction n using Nat.strongRecOn with
  | ind n ih =>
    intro m B thing st p Q hm hr hp hb ht h
    refine C.spoilt.pot (k := n + 1) (by omega) hr fun m' hm' hl => ?_
    show SWp _ [some (.ref r), some (.d thing), none, none, none, none] _ _ _
    unfold b_t__law_spoilt
    ktr_call hl trivial
    refine take_t C (by omega) hl hp (by omega) (by omega) (by omega) fun d1 p1 b0 b1 hp1 => ?_
    ktr_call hl trivial
    refine on_in b0 (by simpa using b1) fun odd ho => ?_
    have to : ∀ k, Tn (L + 1) (k + 1) odd := fun k => by
      simp only [List.mem_cons, List.not_mem_nil, or_false] at ho
      rcases ho with rfl | rfl | rfl | rfl | rfl | rfl | rfl | rfl | rfl | rfl | rfl | rfl <;> first | exact Tn.s _ | exact Tn.i | exact Tn.b | exact Tn.n | exact Tn.l | exact Tn.k | exact Tn.t3 (by omega) (Tn.s _) Tn.i Tn.i | exact ⟨Nat.zero_le _, fun y hy => by cases hy⟩
    ktr_call hl trivial
    refine take_t C (by omega) hl hp1 (by omega) (by omega) (by omega) fun way p2 c0 c1 hp2 => ?_
    have fin : Q (.d odd) (Stw st r p2 []) := h _ _ (to n) (hp2.mono (by omega))
    by_cases hx : ∃ x xs, thing = .tuple (x :: xs)
    · obtain ⟨x, xs, rfl⟩ := hx
      obtain ⟨n, rfl⟩ : ∃ k, n = k + 1 := by
        cases n with
        | zero => unfold Tn at ht; cases ht
        | succ k => exact ⟨k, rfl⟩
      have hlen : (x :: xs).length ≤ L := by unfold Tn at ht; exact ht.1
      have hall : ∀ y ∈ x :: xs, Tn L n y := by unfold Tn at ht; exact ht.2
      generalize hys : x :: xs = ys at *
      have hne : 0 < ys.length := by rw [← hys]; simp
      have em : ys.isEmpty = false := by rw [← hys]; rfl
      ktr_call (And.intro hl (@eqN)) em
      by_cases hw : way = 0
      · rw [if_pos hw]; exact fin
      rw [if_neg hw]
      refine take_t C (by omega) hl hp2 (by omega) (by omega) (by omega) fun at_ p3 f0 f1 hp3 => ?_
      obtain ⟨j, rfl⟩ : ∃ j : Nat, at_ = j := ⟨at_.toNat, by omega⟩
      have hj : j < ys.length := by omega
      have gj : ys[j]? = some ys[j] := List.getElem?_eq_getElem hj
      have cuts := And.intro (@cut_to) (And.intro (@cut_from1) (@cut_from))
      have len1 : (ys.take j).length + 1 ≤ 16777216 := by rw [List.length_take]; omega
      by_cases h6 : way < 6
      · rw [if_pos h6]
        have tj : ON ys[j]? (fun d => True) := by rw [gj]; trivial
        ktr_call (And.intro hl cuts) gj
        refine ih n (by omega) (by omega) (stw_r hl) hp3 (by omega) (hall _ (List.getElem_mem hj)) fun e p5 te hp5 => ?_
        ktr_call hl trivial
        have tc : Tn (L + 1) (n + 2) (.tuple (ys.take j ++ [e] ++ ys.drop (j + 1))) := by
          have hw : Tn (L + 1) (n + 2) (.tuple ys) := by
            unfold Tn
            exact ⟨by omega, fun y hy => ((hall y hy).wide (by omega)).le (by omega)⟩
          exact hw.cut hj (fun y hy => by rw [List.mem_singleton.mp hy]; exact te) (by simp)
        refine ⟨by omega, ?_, h _ _ tc (hp5.mono (by omega))⟩
        simp only [List.length_append, List.length_take, List.length_drop, List.length_cons, List.length_nil]
        omega
      · rw [if_neg h6]
        ktr_call (And.intro hl cuts) (@oq_listT)
        have hw : Tn L (n + 2) (.tuple ys) := by
          unfold Tn
          exact ⟨hlen, fun y hy => (hall y hy).mono⟩
        have t1 : Tn (L + 1) (n + 2) (.tuple (ys.take j ++ ys.drop (j + 1))) := by
          have := (hw.wide (L' := L + 1) (by omega)).cut (ys := []) hj (by simp) (by simp)
          rwa [List.append_nil] at this
        have t2 : Tn (L + 1) (n + 2) (.tuple (ys.take j ++ [odd] ++ ys.drop j)) := hw.ins hj (to n)
        refine ⟨?_, ?_, ?_, on_in (by omega) (by show way - 6 < 3; omega) fun e he => ?_⟩
        · simp only [List.length_take, List.length_drop]
          omega
        · rw [List.length_take]
          omega
        · simp only [List.length_append, List.length_take, List.length_drop, List.length_cons, List.length_nil]
          omega
        · simp only [List.mem_cons, List.not_mem_nil, or_false] at he
          refine h _ _ ?_ (hp3.mono (by omega))
          rcases he with rfl | rfl | rfl
          · exact t1
          · exact t2
          · exact Tn.l
    · have hfin : (isi (tyD thing) .tup = false) ∨ thing = .tuple [] := by
        cases thing with
        | tuple xs =>
          cases xs with
          | nil => exact .inr rfl
          | cons x xs => exact absurd ⟨_, _, rfl⟩ hx
        | _ => exact .inl rfl
      rcases hfin with q | rfl
      · ktr_call hl q
        exact fin
      · ktr_call hl (@eqN)
        exact fin
end
end Iv
set_option Elab.async false
set_option linter.all false
set_option maxRecDepth 100000
set_option maxHeartbeats 2000000
/-! Wt4: what ops tell; k02. -/
namespace Iv
open PySem
local macro_rules   | `(tactic| ktr_call $a:term $b:term) => `(tactic| simp (config := { maxSteps := 400000, failIfUnchanged := false, implicitDefEqProofs := false }) only [↓sw_forS, ↓wp_lcG, ↓wp_itV, ↓wp_itR1, ↓wp_itR2, ↓it_l, ↓it_t, ↓it_pL, ↓it_pT, ↓it_iL, ↓it_iT, ↓it_rD, ↓it_ref, ↓it_r1, ↓it_r2, ↓en_t, ↓en_l, ↓en_rD, ↓en_pL, ↓en_iL, ↓en_iT, ↓stw_nil, ↓stw_stw, List.append_nil, ↓sw_bad, ↓sw_seq, ↓sw_next, ↓sw_set, ↓sw_ret, ↓sw_retN, ↓sw_drop, ↓sw_if, ↓sw_sub, ↓sw_asg, ↓sw_par, ↓wp_bind, ↓wp_ret, ↓wp_cM, ↓wp_nil, ↓wp_cons, ↓wp_v0, ↓wp_vs, ↓wp_ty, ↓wp_gl, ↓wp_bin, ↓wp_un, ↓wp_callP, ↓wp_callF, ↓wp_g1, ↓wp_g2, ↓wp_g3, ↓wp_g4,       ↓wp_bM, ↓wp_asB, ↓wp_notM, ↓wp_orM, ↓wp_andM, ↓wp_tst, ↓wp_trub, ↓tru_int, ↓tru_none, ↓tru_list, ↓tru_tuple, ↓wp_andV, ↓wp_orV, ↓wp_notV, ↓wp_ifV, ↓wp_chain, ↓wp_frzD, ↓wp_tupM, ↓oq_tuple0, ↓wp_lstM, ↓wp_lstC, ↓frzs_nil, ↓frzs_cons, ↓frzs_ref, ↓wp_retL', ↓wp_retT', ↓wp_newC', ↓wp_meth1, ↓wp_meth2, ↓wp_isL, ↓oq_append, ↓oq_pop, ↓pl_ref, ↓ix_ref', ↓ex_lst, ex_lst, List.getElem?_cons_zero, List.getElem?_cons_succ, ↓ls_r, ↓ls_0, ↓ls_1, ↓ls_2, ↓stw_r, ↓stw_k, ↓stw_k0, ↓stw_set, ↓stw_setk, ↓stw_setk0, ↓stw_app, ↓stw_len, ↓stw_back, ↓stw_new,       ↓oq_l1, ↓oq_l2, ↓oq_add, ↓oq_sub, ↓oq_mul, ↓oq_neg, ↓oq_max, ↓oq_min, ↓oq_mod, ↓oq_fdiv, ↓oq_abs, ↓oq_intB, ↓oq_le, ↓oq_lt, ↓oq_ge, ↓oq_gt, ↓oq_eqI, ↓oq_neI, ↓oq_eqS', ↓ty_intsL, ↓ty_intsT, ↓ty_pairsT, ↓ty_pairsL, ↓ty_rowsD, ↓ty_rowD, ↓ty_pairD, ↓pl_pairsT, ↓pl_intsL, ↓pl_intsT, ↓pl_pairsL, ↓pl_rowsD, ↓oq_eqIs, ↓oq_neIs, ↓oq_inIs, ↓oq_ninIs, ↓pl_list, ↓pl_tuple, ↓oq_isi, ↓ix_tup, ↓ix_lst, ↓at_0, ↓at_1, ↓at_nat, ↓at_m1, ↓at_lit, ↓eq_ref, ↓en_ref, ↓drop_last, ↓get_last, ↓stw_new1, ↓oq_tupleR, ↓add_ll, ↓add_tt, ↓add_rl, ↓ne_nilT, ↓eq_nilI, ↓in_dictI, ↓ix_dictI, ↓on_some, ↓on_none, ↓on_map, ↓asgQ_some, ↓asgQ_none, ↓aName, ↓aTup_tup, ↓aTup_lst, ↓aCons_cons, ↓aNil_nil, ↓back_take, ↓back_set, ↓ty_int, ↓ty_bool, ↓ty_str, ↓ty_list, ↓ty_tuple, ↓isi_self, ↓isi_ib,       ↓List.set_cons_succ, ↓List.set_cons_zero, List.set_cons_succ, List.set_cons_zero, wp_v0, wp_vs, wipe_nil, wipe_cons, implies_true, forall_const, ↓wp_slM, ↓wp_noO, ↓wp_someO, ↓wp_asI, ↓sl_list, ↓sl_tuple, ↓Option.bind_some, ↓$a, ↓$b, decide_eq_true_eq, Bool.not_eq_true', decide_eq_false_iff_not, ↓reduceIte, true_and, and_true, if_true, if_false, List.length_cons, List.length_nil, List.length_map, ↓srt_ref, ↓srt_pL, Nat.add_zero, Nat.zero_add, List.nil_append, List.cons_append, List.zip_cons_cons, List.zip_nil_left, List.zip_nil_right, List.foldl_cons, List.foldl_nil, ne_eq, not_true_eq_false, not_false_eq_true, reduceCtorEq, Bool.true_eq_false, Bool.false_eq_true, Bool.not_true, Bool.not_false, Bool.not_not, Nat.reduceAdd, sizeLine_eq, Nat.reduceLeDiff, cast_lit, Int.reduceEq, Int.reduceLT, Int.reduceLE, Int.reduceNeg])
local macro_rules   | `(tactic| walk_at "dec") => `(tactic| (repeat' split) <;> first | exact (decide_eq_true (by omega)).symm | exact (decide_eq_false (by omega)).symm | exact decide_eq_decide.mpr (by omega) | exact decide_eq_true (by omega) | exact decide_eq_false (by omega)) 
def b_t_plus (c : Str → List Vl → M Vl) : S := (seqS (retS (bin pMod2 (bin pAdd2 (varM 0) (varM 1)) (kI 256)))
  nextS)
def b_t_minus (c : Str → List Vl → M Vl) : S := (seqS (retS (bin pMod2 (bin pSub2 (varM 0) (varM 1)) (kI 256)))
  nextS)
def b_t_times (c : Str → List Vl → M Vl) : S := (seqS (retS (bin pMod2 (bin pMulA2 (varM 0) (varM 1)) (kI 256)))
  nextS)
def b_t_is_less (c : Str → List Vl → M Vl) : S := (seqS (retS (callP pInt (consM (bin (cmpP .Lt) (varM 0) (varM 1)) nilM)))
  nextS)
def b_t_are_equal (c : Str → List Vl → M Vl) : S := (seqS (retS (callP pInt (consM (bin (cmpP .Eq) (varM 0) (varM 1)) nilM)))
  nextS)
def b_t__law_op_right (gl : Str → Option GVal) (c : Str → List Vl → M Vl) : S := (seqS (setS 3 (dctG newDC [((cM (.str "+")), (bin pAdd2 (varM 1) (varM 2))), ((cM (.str "-")), (bin pAdd2 (bin pSub2 (varM 1) (varM 2)) (kI 256))), ((cM (.str "*")), (bin pMulA2 (varM 1) (varM 2)))]))
  (seqS (dropS (updD (varM 3) (dctG (fun ds => ret (.d (.dict ds))) [((cM (.str "<")), (callP pInt (consM (bin (cmpP .Lt) (varM 1) (varM 2)) nilM))), ((cM (.str "=")), (callP pInt (consM (bin (cmpP .Eq) (varM 1) (varM 2)) nilM)))])))
  (seqS (setS 4 (bin (pIxD2 "OPS" t_OPS) (glM "OPS") (varM 0)))
  (seqS (setS 5 (callD gl c (varM 4) (consM (varM 1) (consM (varM 2) nilM))))
  (seqS (retS (andV (callF 1 (c "_law_is_worth") (consM (varM 5) nilM)) (bin (cmpP .Eq) (varM 5) (bin pMod2 (bin pIxA2 (varM 3) (varM 0)) (kI 256)))))
  nextS)))))
def b_t_law (c : Str → List Vl → M Vl) : S := (seqS (forS (itR1 (callP pMax (consM (kI 1) (consM (callP pMin (consM (kI 14) (consM (callP (l1 pLenA1) (consM (varM 0) nilM)) nilM))) nilM)))) (aName 1) (seqS (setS 2 (callF 2 (c "_law_pot") (consM (varM 0) (consM (varM 1) nilM))))
  (seqS (forS (itR1 (kI 4)) (aName 3) (seqS (setS 4 (callF 2 (c "_law_sound_term") (consM (varM 2) (consM (bin pIxA2 (lstM (consM (kI 4) (consM (kI 5) (consM (callF 2 (c "_law_take") (consM (varM 2) (consM (kI 5) nilM))) nilM)))) (callF 2 (c "_law_take") (consM (varM 2) (consM (kI 3) nilM)))) nilM))))
  (seqS (setS 5 (callF 2 (c "_law_spoilt") (consM (varM 2) (consM (varM 4) nilM))))
  (seqS (forS (itV (lstM (consM (varM 4) (consM (varM 5) (consM (callF 2 (c "_law_spoilt") (consM (varM 2) (consM (varM 5) nilM))) (consM (callF 2 (c "_law_any_term") (consM (varM 2) (consM (kI 5) nilM))) (consM (callF 1 (c "_law_leaf") (consM (varM 2) nilM)) nilM))))))) (aName 6) (seqS (ifS (notM (tst (callF 1 (c "_law_told") (consM (varM 6) nilM)))) (seqS (retS (cM (.bool false)))
  nextS) nextS)
  nextS))
  nextS))))
  (seqS (parS [7, 8] (consM (callF 2 (c "_law_take") (consM (varM 2) (consM (kI 256) nilM))) (consM (callF 2 (c "_law_take") (consM (varM 2) (consM (kI 256) nilM))) nilM)))
  (seqS (forS (itV (lstM (consM (cM (.str "+")) (consM (cM (.str "-")) (consM (cM (.str "*")) (consM (cM (.str "<")) (consM (cM (.str "=")) nilM))))))) (aName 9) (seqS (forS (itV (lstM (consM (tupM (consM (varM 7) (consM (varM 8) nilM))) (consM (tupM (consM (varM 8) (consM (varM 7) nilM))) (consM (tupM (consM (varM 7) (consM (varM 7) nilM))) (consM (tupM (consM (kI 255) (consM (varM 7) nilM))) (consM (tupM (consM (varM 7) (consM (kI 255) nilM))) (consM (tupM (consM (kI 0) (consM (varM 7) nilM))) nilM)))))))) (aName 10) (seqS (ifS (notM (tst (callF 3 (c "_law_op_right") (consM (varM 9) (consM (bin pIxA2 (varM 10) (kI 0)) (consM (bin pIxA2 (varM 10) (kI 1)) nilM)))))) (seqS (retS (cM (.bool false)))
  nextS) nextS)
  nextS))
  nextS))
  nextS)))))
  (seqS (retS (andV (bin (cmpP .Eq) (callP (l1 (pSortedD1 "OPS" t_OPS)) (consM (glM "OPS") nilM)) (lstM (consM (cM (.str "*")) (consM (cM (.str "+")) (consM (cM (.str "-")) (consM (cM (.str "<")) (consM (cM (.str "=")) nilM))))))) (bin (cmpP .Eq) (callP pRepr (consM (kI 256) nilM)) (cM (.str "256")))))
  nextS))
def two : GVal := .fn ⟨2, [], [[]]⟩
structure OpsT (P : Pg) : Prop extends DrawT P where
  plus : HasB P "plus" 2 b_t_plus
  minus : HasB P "minus" 2 b_t_minus
  times : HasB P "times" 2 b_t_times
  less : HasB P "is_less" 2 b_t_is_less
  equal : HasB P "are_equal" 2 b_t_are_equal
  opRight : HasB P "_law_op_right" 6 (b_t__law_op_right P.glob)
  g1 : P.glob "plus" = some two
  g2 : P.glob "minus" = some two
  g3 : P.glob "times" = some two
  g4 : P.glob "is_less" = some two
  g5 : P.glob "are_equal" = some two
structure K02L (P : Pg) : Prop extends OpsT P where
  pot : HasB P "_law_pot" 4 fun _ => potB
  law : HasB P "law" 11 b_t_law
section
variable {P : Pg} {st : Sto} {ρ : Env} {a b : Int}
theorem mul256 (ha : 0 ≤ a ∧ a ≤ 255) (hb : 0 ≤ b ∧ b ≤ 255) : mulOk a b = true := mulOk_of (m := 10) (n := 10) (by omega) (by omega) (by decide) (by decide) (by decide)
theorem plus_is (C : OpsT P) {m : Nat} (hm : 0 < m) : Is (callN P m "plus" [.d (.int a), .d (.int b)]) st (.d (.int ((a + b) % 256))) := by
  refine C.plus.is (k := 0) hm fun m' hm' => ?_
  show SWp _ [some (.d (.int a)), some (.d (.int b))] _ _ _
  unfold b_t_plus
  ktr_call trivial trivial
  all_goals first | decide | (refine ⟨by decide, ?_⟩; first | rfl | trivial) | rfl
theorem minus_is (C : OpsT P) {m : Nat} (hm : 0 < m) : Is (callN P m "minus" [.d (.int a), .d (.int b)]) st (.d (.int ((a - b) % 256))) := by
  refine C.minus.is (k := 0) hm fun m' hm' => ?_
  show SWp _ [some (.d (.int a)), some (.d (.int b))] _ _ _
  unfold b_t_minus
  ktr_call trivial trivial
  all_goals first | decide | (refine ⟨by decide, ?_⟩; first | rfl | trivial) | rfl
theorem times_is (C : OpsT P) {m : Nat} (hm : 0 < m) (ha : 0 ≤ a ∧ a ≤ 255) (hb : 0 ≤ b ∧ b ≤ 255) : Is (callN P m "times" [.d (.int a), .d (.int b)]) st (.d (.int (a * b % 256))) := by
  refine C.times.is (k := 0) hm fun m' hm' => ?_
  show SWp _ [some (.d (.int a)), some (.d (.int b))] _ _ _
  unfold b_t_times
  have mk := eq_true (mul256 ha hb)
  ktr_call mk trivial
  all_goals first | decide | (refine ⟨by decide, ?_⟩; first | rfl | trivial) | rfl
theorem less_is (C : OpsT P) {m : Nat} (hm : 0 < m) : Is (callN P m "is_less" [.d (.int a), .d (.int b)]) st (.d (.int (if a < b then 1 else 0))) := by
  refine C.less.is (k := 0) hm fun m' hm' => ?_
  show SWp _ [some (.d (.int a)), some (.d (.int b))] _ _ _
  unfold b_t_is_less
  ktr_call trivial trivial
  all_goals first | rfl | (simp)
theorem equal_is (C : OpsT P) {m : Nat} (hm : 0 < m) : Is (callN P m "are_equal" [.d (.int a), .d (.int b)]) st (.d (.int (if a = b then 1 else 0))) := by
  refine C.equal.is (k := 0) hm fun m' hm' => ?_
  show SWp _ [some (.d (.int a)), some (.d (.int b))] _ _ _
  unfold b_t_are_equal
  ktr_call trivial trivial
  all_goals first | rfl | (simp)
/-! ### dicts that are written -/
theorem wp_dctG {fin : DKv → M Vl} {l : List ((Env → M Vl) × (Env → M Vl))} {Q : Vl → Sto → Prop} : Wp (dctG fin l ρ) st Q = Wp (prs l ρ) st fun ps s1 => Wp (frzsM (ps.map (·.2))) s1 fun ds s2 => Wp (match keysD ps with
    | some ks => fin (mergeD [] (ks.zip ds))
    | none => nope) s2 Q := by
  unfold dctG
  simp only [wp_bind]
  try rfl
theorem wp_ex {α : Type} {m : M α} {Q : α → Sto → Prop} : Wp (ex0 m) st Q = Wp m st Q := by
  unfold Wp ex0
  cases m st <;> rfl
theorem prs_nil {Q : List (Vl × Vl) → Sto → Prop} : Wp (prs [] ρ) st Q = Q [] st := rfl
theorem prs_cons {f g : Env → M Vl} {l : List ((Env → M Vl) × (Env → M Vl))} {Q : List (Vl × Vl) → Sto → Prop} : Wp (prs ((f, g) :: l) ρ) st Q = Wp (f ρ) st fun a s1 => Wp (g ρ) s1 fun b s2 => Wp (prs l ρ) s2 fun r s3 => Q ((a, b) :: r) s3 := by
  show Wp (M.bind (ex0 (f ρ)) fun a => M.bind (ex0 (g ρ)) fun b => M.bind (prs l ρ) fun r => ret ((a, b) :: r)) st Q = _
  simp only [wp_bind, wp_ex, wp_ret]
theorem keysD_3 {x y z : Str} {a b c : Vl} : keysD [(.d (.str x), a), (.d (.str y), b), (.d (.str z), c)] = some [.inr x, .inr y, .inr z] := rfl
theorem keysD_2 {x y : Str} {a b : Vl} : keysD [(.d (.str x), a), (.d (.str y), b)] = some [.inr x, .inr y] := rfl
theorem map_snd {α β : Type} {x : α × β} {r : List (α × β)} : List.map (fun y => y.snd) (x :: r) = x.2 :: List.map (fun y => y.snd) r := rfl
theorem map_snd0 {α β : Type} : List.map (fun y : α × β => y.snd) [] = [] := rfl
theorem wp_newDC {ds : DKv} {Q : Vl → Sto → Prop} : Wp (newDC ds) st Q = Q (.ref st.length) (st ++ [.dct ds]) := rfl
theorem wp_updD {f g : Env → M Vl} {Q : Vl → Sto → Prop} : Wp (updD f g ρ) st Q = Wp (f ρ) st fun a s1 => Wp (isDc a) s1 fun _ s2 => Wp (g ρ) s2 fun b s3 => OptQ (pUpd2 a b s3) Q := by
  unfold updD
  simp only [wp_bind, wp_l2]
theorem dcAt {kvs : DKv} : (st ++ [Cell.dct kvs])[st.length]? = some (.dct kvs) := by simp
theorem wp_isDc {kvs : DKv} {Q : Unit → Sto → Prop} : Wp (isDc (.ref st.length)) (st ++ [Cell.dct kvs]) Q = Q () (st ++ [.dct kvs]) := by
  unfold Wp isDc
  simp only [dcAt]
theorem oq_upd {kvs ds : DKv} {Q : Vl → Sto → Prop} : OptQ (pUpd2 (.ref st.length) (.d (.dict ds)) (st ++ [Cell.dct kvs])) Q = ON (keysOk ds) fun es => kvs.length + ds.length ≤ sizeLine ∧ Q (.d .none) (st ++ [.dct (mergeD kvs es)]) := by
  unfold pUpd2
  simp only [dcAt]
  cases keysOk ds with
  | none => rfl
  | some es =>
    simp only [Option.bind_some, ON]
    rw [oq_ite]
    rw [show (st ++ [Cell.dct kvs]).set st.length (.dct (mergeD kvs es)) = st ++ [.dct (mergeD kvs es)] by simp]
    rfl
theorem ix_dc {kvs : DKv} {w : Str} {Q : Vl → Sto → Prop} : OptQ (pIxA2 (.ref st.length) (.d (.str w)) (st ++ [Cell.dct kvs])) Q = ON (lookK kvs (.inr w)) fun d => Q (.d d) (st ++ [.dct kvs]) := by
  unfold pIxA2
  have : asK (st ++ [Cell.dct kvs]) (.ref st.length) = some kvs := by simp [asK]
  simp only [this, kyOf, keyOf, Option.bind_some]
  cases lookK kvs (.inr w) <;> rfl
theorem back_dc {x : PyData} {c : Cell} {Q : Vl → Sto → Prop} : Back st.length (.d x) (st ++ [c]) Q = Q (.d x) st := by
  rw [back_d]; simp
theorem oq_ixOps {w : Str} {v : Vl} (h : (t_OPS.lookup w).map DV.vl = some v) {Q : Vl → Sto → Prop} : OptQ (pIxD2 "OPS" t_OPS (.gl (Str.ofString "OPS")) (.d (.str w)) st) Q = Q v st := by
  show OptQ (if Str.ofString "OPS" = Str.ofString "OPS" then (t_OPS.lookup w).map (fun v => (v.vl, st)) else none) Q = _
  rw [if_pos rfl]
  cases e : t_OPS.lookup w with
  | none => rw [e] at h; cases h
  | some u => rw [e] at h; cases h; rfl
theorem wp_callD {glob : Str → Option GVal} {cl : Str → List Vl → M Vl} {f : Env → M Vl} {g : Env → M (List Vl)} {Q : Vl → Sto → Prop} : Wp (callD glob cl f g ρ) st Q = Wp (f ρ) st fun v s => Wp (dyn glob cl (g ρ) v) s Q := by
  unfold callD
  rw [wp_bind]
theorem wp_dyn {glob : Str → Option GVal} {cl : Str → List Vl → M Vl} {m : M (List Vl)} {x : Str} (h : glob x = some two) {Q : Vl → Sto → Prop} : Wp (dyn glob cl m (.gl x)) st Q = Wp m st fun as s => Wp (guardN 2 (cl x) as) s Q := by
  have : dyn glob cl m (.gl x) st = M.bind m (guardN 2 (cl x)) st := by
    unfold dyn
    simp only [h, two]
    rfl
  unfold Wp
  rw [this]
  unfold M.bind
  cases m st <;> rfl
theorem d3_is {a b c : PyData} : mergeD [] [(.inr (Str.ofString "+"), a), (.inr (Str.ofString "-"), b), (.inr (Str.ofString "*"), c)] = [(.str (Str.ofString "+"), a), (.str (Str.ofString "-"), b), (.str (Str.ofString "*"), c)] := by kernel_rfl
theorem d2_is {a b : PyData} : mergeD [] [(.inr (Str.ofString "<"), a), (.inr (Str.ofString "="), b)] = [(.str (Str.ofString "<"), a), (.str (Str.ofString "="), b)] := by kernel_rfl
theorem d5_is {a b c d e : PyData} : mergeD [(.str (Str.ofString "+"), a), (.str (Str.ofString "-"), b), (.str (Str.ofString "*"), c)] [(.inr (Str.ofString "<"), d), (.inr (Str.ofString "="), e)] = [(.str (Str.ofString "+"), a), (.str (Str.ofString "-"), b), (.str (Str.ofString "*"), c), (.str (Str.ofString "<"), d), (.str (Str.ofString "="), e)] := by kernel_rfl
theorem k2_is {a b : PyData} : keysOk [(.str (Str.ofString "<"), a), (.str (Str.ofString "="), b)] = some [(.inr (Str.ofString "<"), a), (.inr (Str.ofString "="), b)] := by kernel_rfl
def due (a b : Int) : DKv := [(.str (Str.ofString "+"), .int (a + b)), (.str (Str.ofString "-"), .int (a - b + 256)), (.str (Str.ofString "*"), .int (a * b)), (.str (Str.ofString "<"), .int (if a < b then 1 else 0)), (.str (Str.ofString "="), .int (if a = b then 1 else 0))]
theorem opRight_of (C : OpsT P) {m : Nat} (hm : 1 < m) (ha : 0 ≤ a ∧ a ≤ 255) (hb : 0 ≤ b ∧ b ≤ 255) {w x : Str} {v u : Int} (h1 : (t_OPS.lookup w).map DV.vl = some (.gl x)) (h2 : P.glob x = some two)
    (h3 : ∀ m' st, 0 < m' → Is (callN P m' x [.d (.int a), .d (.int b)]) st (.d (.int v))) (h4 : lookK (due a b) (.inr w) = some (.int u)) (h5 : v = u % 256) : Is (callN P m "_law_op_right" [.d (.str w), .d (.int a), .d (.int b)]) st (.d (.bool true)) := by
  refine C.opRight.is (k := 1) hm fun m' hm' => ?_
  show SWp _ [some (.d (.str w)), some (.d (.int a)), some (.d (.int b)), none, none, none] _ _ _
  unfold b_t__law_op_right
  have mk := eq_true (mul256 ha hb)
  have r1 := And.intro mk (And.intro (And.intro (@wp_dctG) (@map_snd)) (And.intro (And.intro (@prs_nil) (@prs_cons)) (And.intro (@map_snd0) (And.intro (@keysD_3) (@keysD_2)))))
  have r2 := And.intro (And.intro (@wp_newDC) (@wp_updD)) (And.intro (And.intro (@wp_isDc) (@oq_upd)) (And.intro (And.intro (@d3_is) (@d2_is)) (And.intro (And.intro (@d5_is) (@k2_is)) (And.intro (@wp_callD) (@ix_dc)))))
  ktr_call r1 r2
  rw [oq_ixOps h1]
  have dy := fun (m : M (List Vl)) (t : Sto) (Q : Vl → Sto → Prop) => @wp_dyn t P.glob (callN P m') m x h2 Q
  have cl := fun (t : Sto) (Q : Vl → Sto → Prop) => (h3 m' t (by omega)).wp (Q := Q)
  have lw := fun (t : Sto) (Q : Vl → Sto → Prop) => (lworth_is (st := t) C.toTermP (m := m') (by omega) (d := .int v)).wp (Q := Q)
  have v1 : 0 ≤ v := by rw [h5]; exact Int.emod_nonneg _ (by decide)
  have v2 : v < 256 := by rw [h5]; exact Int.emod_lt_of_pos _ (by decide)
  have wv : worthB (.int v) = true := decide_eq_true (by omega)
  have eqv : (v = u % 256) = True := eq_true h5
  unfold due at h4
  ktr_call (And.intro dy cl) (And.intro (And.intro lw wv) (And.intro (And.intro (@ix_dc) h4) (And.intro (@back_dc) eqv)))
  rw [decide_true]
theorem opRight_is (C : OpsT P) {m : Nat} (hm : 1 < m) (ha : 0 ≤ a ∧ a ≤ 255) (hb : 0 ≤ b ∧ b ≤ 255) {w : PyData} (hw : w ∈ [PyData.str (Str.ofString "+"), .str (Str.ofString "-"), .str (Str.ofString "*"), .str (Str.ofString "<"), .str (Str.ofString "=")]) : Is (callN P m "_law_op_right" [.d w, .d (.int a), .d (.int b)]) st (.d (.bool true)) := by
  simp only [List.mem_cons, List.not_mem_nil, or_false] at hw
  rcases hw with rfl | rfl | rfl | rfl | rfl
  · exact opRight_of C hm ha hb (w := Str.ofString "+") (x := Str.ofString "plus") (by kernel_rfl) C.g1 (fun m' st h => plus_is C h) (show lookK (due a b) _ = some (.int (a + b)) by kernel_rfl) rfl
  · exact opRight_of C hm ha hb (w := Str.ofString "-") (x := Str.ofString "minus") (by kernel_rfl) C.g2 (fun m' st h => minus_is C h) (show lookK (due a b) _ = some (.int (a - b + 256)) by kernel_rfl) (by omega)
  · exact opRight_of C hm ha hb (w := Str.ofString "*") (x := Str.ofString "times") (by kernel_rfl) C.g3 (fun m' st h => times_is C h ha hb) (show lookK (due a b) _ = some (.int (a * b)) by kernel_rfl) rfl
  · exact opRight_of C hm ha hb (w := Str.ofString "<") (x := Str.ofString "is_less") (by kernel_rfl) C.g4 (fun m' st h => less_is C h) (show lookK (due a b) _ = some (.int (if a < b then 1 else 0)) by kernel_rfl) (by split <;> rfl)
  · exact opRight_of C hm ha hb (w := Str.ofString "=") (x := Str.ofString "are_equal") (by kernel_rfl) C.g5 (fun m' st h => equal_is C h) (show lookK (due a b) _ = some (.int (if a = b then 1 else 0)) by kernel_rfl) (by split <;> rfl)
end
theorem oq_sOps {st : Sto} {Q : Vl → Sto → Prop} : OptQ (pSortedD1 (Str.ofString "OPS") t_OPS (.gl (Str.ofString "OPS")) st) Q = Q (.d (.list [.str (Str.ofString "*"), .str (Str.ofString "+"), .str (Str.ofString "-"), .str (Str.ofString "<"), .str (Str.ofString "=")])) st := by
  have e : sortS (t_OPS.map (·.1)) = [Str.ofString "*", Str.ofString "+", Str.ofString "-", Str.ofString "<", Str.ofString "="] := (sortS_uniq (by decide +kernel) (by decide +kernel)).symm
  have : pSortedD1 (Str.ofString "OPS") t_OPS (.gl (Str.ofString "OPS")) st = some (.d (.list ((sortS (t_OPS.map (·.1))).map .str)), st) := by
    unfold pSortedD1
    dsimp only
    rw [if_pos ⟨rfl, by decide⟩]
  rw [this, e]
  rfl
theorem k02_told {P : Pg} (C : K02L P) : Told P 20 := by
  intro ns hns
  have key : Wp (callN P 20 "law" [.d (.list (ns.map .int))]) [] fun v s => v = .d (.bool true) := by
    refine C.law.wp (k := 19) (by omega) fun m' hm' => ?_
    show SWp _ [some (.d (.list (ns.map .int))), none, none, none, none, none, none, none, none, none, none] _ _ _
    unfold b_t_law
    ktr_call trivial trivial
    refine ⟨by omega, ?_⟩
    refine sw_forN (wk_r' (C := fun _ => True) rfl) (fun i ρ' st' => ∃ (x1 x2 x3 x4 x5 x6 x7 x8 x9 x10 : Option Vl), ρ' = [some (.d (.list (ns.map .int))), x1, x2, x3, x4, x5, x6, x7, x8, x9, x10]) (fun _ _ _ _ => trivial) ⟨_, _, _, _, _, _, _, _, _, _, rfl⟩ (fun i hi ρ' st' hI => ?_) fun ρ' st' hI => ?_
    · obtain ⟨x1, x2, x3, x4, x5, x6, x7, x8, x9, x10, rfl⟩ := hI
      refine ⟨_, rfl, ?_⟩
      ktr_call trivial trivial
      refine pot_wp C.pot (by omega) (by omega) fun p hp => ?_
      have hr : (st' ++ [Cell.lst p])[st'.length]? = some (.lst p) := by simp
      generalize hS : st' ++ [Cell.lst p] = S at hr ⊢
      generalize st'.length = r at hr ⊢
      have hl := (List.getElem?_eq_some_iff.mp hr).1
      rw [stw_of hr]
      ktr_call hl trivial
      refine sw_forN (wk_r' (C := fun _ => True) (n := 4) rfl) (fun j ρ' st2 => ∃ (x3 x4 x5 x6 : Option Vl) (p' : List PyData), ρ' = [some (.d (.list (ns.map .int))), some (.d (.int (i : Nat))), some (.ref r), x3, x4, x5, x6, x7, x8, x9, x10] ∧ st2 = Stw S r p' [] ∧ Pot (j * 10000) p') (fun _ _ _ _ => trivial) ⟨_, _, _, _, _, rfl, rfl, by simpa using hp⟩ (fun j hj ρ' st2 hI => ?_) fun ρ' st2 hI => ?_
      · obtain ⟨x3, x4, x5, x6, p', rfl, rfl, hp'⟩ := hI
        refine ⟨_, rfl, ?_⟩
        ktr_call hl trivial
        have b5 : bt 5 = 816 := rfl
        refine take_t C.toDrawT (by omega) hl hp' (by omega) (by omega) (by omega) fun d1 p1 a0 a1 hp1 => ?_
        ktr_call hl trivial
        refine take_t C.toDrawT (by omega) hl hp1 (by omega) (by omega) (by omega) fun d2 p2 c0 c1 hp2 => ?_
        ktr_call hl trivial
        refine on_in c0 (by simpa using c1) fun e he => ?_
        obtain ⟨k, rfl, hk⟩ : ∃ k : Nat, e = .int k ∧ k ≤ 5 := by
          simp only [List.mem_cons, List.not_mem_nil, or_false] at he
          rcases he with rfl | rfl | rfl
          · exact ⟨4, rfl, by decide⟩
          · exact ⟨5, rfl, by decide⟩
          · exact ⟨d1.toNat, by congr 1; omega, by omega⟩
        have bk := bt_lt hk
        ktr_call hl trivial
        refine soundT_w (L := 3) C.toDrawT (by omega) (by omega) (by omega) (stw_r hl) hp2 (by omega) fun t1 p3 h1 hp3 => ?_
        ktr_call hl trivial
        refine spoilt_w (L := 3) (n := 5) C.toDrawT (by omega) (by omega) (by omega) (stw_r hl) hp3 (by omega) (h1.le hk) fun t2 p4 h2 hp4 => ?_
        ktr_call hl trivial
        refine spoilt_w (L := 4) (n := 6) C.toDrawT (by omega) (by omega) (by omega) (stw_r hl) hp4 (by omega) h2 fun t3 p5 h3 hp5 => ?_
        ktr_call hl trivial
        refine anyT_w (L := 3) (k := 5) C.toDrawT (by omega) (by omega) (stw_r hl) hp5 (by omega) fun t4 p6 h4 hp6 => ?_
        ktr_call hl trivial
        refine leaf_w (L := 3) C.toDrawT (by omega) (stw_r hl) hp6 (by omega) fun t5 p7 h5 hp7 => ?_
        ktr_call hl trivial
        have all : ∀ d ∈ [t1, t2, t3, t4, t5], Tn 5 7 d := fun d hd => by
          simp only [List.mem_cons, List.not_mem_nil, or_false] at hd
          rcases hd with rfl | rfl | rfl | rfl | rfl
          · exact (h1.wide (by omega)).le (by omega)
          · exact (h2.wide (by omega)).le (by omega)
          · exact h3
          · exact (h4.wide (by omega)).le (by omega)
          · exact (h5.wide (by omega)).le (by omega)
        refine sw_forI (C := fun _ => True) (enc := fun d => d) (l := [t1, t2, t3, t4, t5]) (wk_e (by simp)) (fun _ ρ' st3 => ∃ x6 : Option Vl, ρ' = [some (.d (.list (ns.map .int))), some (.d (.int (i : Nat))), some (.ref r), some (.d (.int (j : Nat))), some (.d t1), some (.d t2), x6, x7, x8, x9, x10] ∧ st3 = Stw S r p7 []) (fun _ _ _ _ => trivial) ⟨_, rfl, rfl⟩ (fun _ t ht ρ' st3 hI => ?_) fun ρ' st3 hI => ?_
        · obtain ⟨x6, rfl, rfl⟩ := hI
          refine ⟨_, rfl, ?_⟩
          have td := all t (List.mem_of_getElem? ht)
          have to := fun (s : Sto) (Q : Vl → Sto → Prop) => (told_is (st := s) C.toTermP (m := m') (by omega) (by omega) td).wp (Q := Q)
          ktr_call hl to
          first | exact ⟨_, rfl, rfl⟩ | exact ⟨_, rfl⟩
        · obtain ⟨x6, rfl, rfl⟩ := hI
          ktr_call hl trivial
          exact ⟨_, _, _, _, p7, rfl, rfl, hp7.mono (by omega)⟩
      · obtain ⟨x3, x4, x5, x6, p', rfl, rfl, hp'⟩ := hI
        ktr_call hl trivial
        refine take_t C.toDrawT (by omega) hl hp' (by omega) (by omega) (by omega) fun a p1 a0 a1 hp1 => ?_
        ktr_call hl trivial
        refine take_t C.toDrawT (by omega) hl hp1 (by omega) (by omega) (by omega) fun b p2 c0 c1 hp2 => ?_
        ktr_call hl trivial
        refine sw_forI (C := fun _ => True) (enc := fun d => d) (l := [PyData.str (Str.ofString "+"), .str (Str.ofString "-"), .str (Str.ofString "*"), .str (Str.ofString "<"), .str (Str.ofString "=")]) (wk_e (by simp)) (fun _ ρ' st3 => ∃ x9 x10 : Option Vl, ρ' = [some (.d (.list (ns.map .int))), some (.d (.int (i : Nat))), some (.ref r), x3, x4, x5, x6, some (.d (.int a)), some (.d (.int b)), x9, x10]) (fun _ _ _ _ => trivial) ⟨_, _, rfl⟩ (fun _ w hw ρ' st3 hI => ?_) fun ρ' st3 hI => ?_
        · obtain ⟨x9, x10, rfl⟩ := hI
          refine ⟨_, rfl, ?_⟩
          have hw := List.mem_of_getElem? hw
          ktr_call hl trivial
          refine sw_forI (C := fun _ => True) (enc := fun q : Int × Int => PyData.tuple [.int q.1, .int q.2]) (l := [(a, b), (b, a), (a, a), (255, a), (a, 255), (0, a)]) (wk_e rfl) (fun _ ρ' st4 => ∃ x10 : Option Vl, ρ' = [some (.d (.list (ns.map .int))), some (.d (.int (i : Nat))), some (.ref r), x3, x4, x5, x6, some (.d (.int a)), some (.d (.int b)), some (.d w), x10]) (fun _ _ _ _ => trivial) ⟨_, rfl⟩ (fun _ q hq ρ' st4 hI => ?_) fun ρ' st4 hI => ?_
          · obtain ⟨x10, rfl⟩ := hI
            refine ⟨_, rfl, ?_⟩
            have hq := List.mem_of_getElem? hq
            have hb : (0 ≤ q.1 ∧ q.1 ≤ 255) ∧ 0 ≤ q.2 ∧ q.2 ≤ 255 := by
              simp only [List.mem_cons, List.not_mem_nil, or_false] at hq
              rcases hq with rfl | rfl | rfl | rfl | rfl | rfl <;> dsimp only <;> omega
            have op := fun (s : Sto) (Q : Vl → Sto → Prop) => (opRight_is (st := s) C.toOpsT (m := m') (by omega) hb.1 hb.2 hw).wp (Q := Q)
            ktr_call hl op
            exact ⟨_, rfl⟩
          · obtain ⟨x10, rfl⟩ := hI
            ktr_call hl trivial
            exact ⟨_, _, rfl⟩
        · obtain ⟨x9, x10, rfl⟩ := hI
          ktr_call hl trivial
          exact ⟨_, _, _, _, _, _, _, _, _, _, rfl⟩
    · obtain ⟨x1, x2, x3, x4, x5, x6, x7, x8, x9, x10, rfl⟩ := hI
      ktr_call (@oq_sOps) trivial
      have tm : Tm 0 6 (.int 256) := Tm.int3 (by decide) |>.mono (by decide) (by decide)
      have sh : PyData.shown (.int 256) = Str.ofString "256" := by kernel_rfl
      have re := fun s (Q : Vl → Sto → Prop) => @oq_repr s Q _ _ _ tm (by decide) (by decide)
      rw [sh] at re
      ktr_call re trivial
      have eqL := fun (Q : Vl → Sto → Prop) => oq_eqE (st := st') (Q := Q) EncOk.str.list (by decide) (a := [Str.ofString "*", Str.ofString "+", Str.ofString "-", Str.ofString "<", Str.ofString "="]) (b := [Str.ofString "*", Str.ofString "+", Str.ofString "-", Str.ofString "<", Str.ofString "="]) (by simp [strOk_ofS]) (by simp [strOk_ofS])
      simp only [List.map_cons, List.map_nil] at eqL
      rw [eqL]
      ktr_call decide_true trivial
      rfl
  obtain ⟨v, s, e1, e2⟩ := wp_iff.mp key
  exact ⟨s, by rw [e1, e2]⟩
end Iv
set_option Elab.async false
set_option linter.all false
set_option maxRecDepth 100000
set_option maxHeartbeats 0
namespace My
open PySem PySem.Spec PyProof.Rows L2 Iv

def top (i : Nat) : Stmt := PySem.Challenge.pw_pacebond_k02_worths_names_terms.main.body.getD i (.Pass ⟨0, 0, 0, 0⟩)
def f_plus : FD := { name := "plus", own := "plus", st := top 6, N := ["one", "other"], np := 2, u := ⟨[], false⟩ }
def f_minus : FD := { name := "minus", own := "minus", st := top 7, N := ["one", "other"], np := 2, u := ⟨[], false⟩ }
def f_times : FD := { name := "times", own := "times", st := top 8, N := ["one", "other"], np := 2, u := ⟨[], false⟩ }
def f_is_less : FD := { name := "is_less", own := "is_less", st := top 9, N := ["one", "other"], np := 2, u := ⟨[], false⟩ }
def f_are_equal : FD := { name := "are_equal", own := "are_equal", st := top 10, N := ["one", "other"], np := 2, u := ⟨[], false⟩ }
def f_is_whole : FD := { name := "is_whole", own := "is_whole", st := top 12, N := ["thing", "least", "most"], np := 1, kw := [("least", some (.int 0)), ("most", none)], sh := [["most"]], u := ⟨[], false⟩ }
def f_is_worth : FD := { name := "is_worth", own := "is_worth", st := top 13, N := ["thing"], np := 1, u := ⟨[], false⟩ }
def f_is_name : FD := { name := "is_name", own := "is_name", st := top 14, N := ["thing", "sign"], np := 1, u := ⟨[], false⟩ }
def f_is_op : FD := { name := "is_op", own := "is_op", st := top 15, N := ["thing"], np := 1, u := ⟨[], false⟩ }
def f_is_term_within : FD := { name := "is_term_within", own := "is_term_within", st := top 16, N := ["thing", "deep", "word", "one", "other"], np := 2, u := ⟨[], false⟩ }
def f_is_term : FD := { name := "is_term", own := "is_term", st := top 17, N := ["thing"], np := 1, u := ⟨[], false⟩ }
def f__law_pot : FD := { name := "_law_pot", own := "_law_pot", st := top 19, N := ["script", "k", "cell", "mixed"], np := 2, u := ⟨[], true⟩ }
def f__law_take : FD := { name := "_law_take", own := "_law_take", st := top 20, N := ["pot", "many", "found", "one", "other"], np := 2, u := ⟨["pot"], false⟩ }
def f__law_leaf : FD := { name := "_law_leaf", own := "_law_leaf", st := top 21, N := ["pot", "some"], np := 1, u := ⟨[], false⟩ }
def f__law_any_term : FD := { name := "_law_any_term", own := "_law_any_term", st := top 22, N := ["pot", "deep", "word", "one"], np := 2, u := ⟨[], false⟩ }
def f__law_sound_term : FD := { name := "_law_sound_term", own := "_law_sound_term", st := top 23, N := ["pot", "deep", "word", "inner", "other"], np := 2, u := ⟨[], false⟩ }
def f__law_spoilt : FD := { name := "_law_spoilt", own := "_law_spoilt", st := top 24, N := ["pot", "thing", "some", "odd", "way", "at"], np := 2, u := ⟨[], false⟩ }
def f__law_is_worth : FD := { name := "_law_is_worth", own := "_law_is_worth", st := top 25, N := ["thing"], np := 1, u := ⟨[], false⟩ }
def f__law_is_name : FD := { name := "_law_is_name", own := "_law_is_name", st := top 26, N := ["thing", "sign"], np := 1, u := ⟨[], false⟩ }
def f__law_depth : FD := { name := "_law_depth", own := "_law_depth", st := top 27, N := ["thing"], np := 1, u := ⟨[], false⟩ }
def f__law_told : FD := { name := "_law_told", own := "_law_told", st := top 28, N := ["thing", "due"], np := 1, u := ⟨[], false⟩ }
def f__law_op_right : FD := { name := "_law_op_right", own := "_law_op_right", st := top 29, N := ["word", "one", "other", "due", "told", "found"], np := 3, u := ⟨["due"], false⟩ }
def f_law : FD := { name := "law", own := "law", st := top 30, N := ["script", "k", "pot", "turn", "sound", "once", "thing", "one", "other", "word", "pair"], np := 1, u := ⟨[], false⟩ }
def fns_0 : List FD := [f_plus,
  f_minus,
  f_times,
  f_is_less,
  f_are_equal,
  f_is_whole,
  f_is_worth,
  f_is_name,
  f_is_op,
  f_is_term_within,
  f_is_term,
  f__law_pot,
  f__law_take,
  f__law_leaf,
  f__law_any_term,
  f__law_sound_term,
  f__law_spoilt,
  f__law_is_worth,
  f__law_is_name,
  f__law_depth,
  f__law_told,
  f__law_op_right,
  f_law]
def fns : List FD := fns_0
def tab_OPS : List (Str × DV) := [("+", .fn "plus"), ("-", .fn "minus"), ("*", .fn "times"), ("<", .fn "is_less"), ("=", .fn "are_equal")]
def oths_0 : List (Str × OV) := [("WORTHS", .cst (.int 256)),
  ("LETTERS", .cst (.str "abcdefghijklmnopqrstuvwxyz")),
  ("MOST_LETTERS", .cst (.int 6)),
  ("AT", .cst (.str "at")),
  ("DEEPEST", .cst (.int 4)),
  ("OPS", .dct tab_OPS)]
def oths : List (Str × OV) := oths_0
def pg (so : Bool) : Pg := ⟨fns, oths, so⟩
theorem tx_plus : Txt f_plus := ⟨⟨rfl, rfl, rfl, by decide +kernel, rfl, by decide +kernel, by decide +kernel⟩, by decide, ⟨fun _ _ _ _ _ _ _ us ws mv h1 h2 h3 _ => match us, ws, mv, h1, h2, h3 with | [_, _], [], [], _, _, _ => rfl, trivial⟩⟩
theorem tx_minus : Txt f_minus := ⟨⟨rfl, rfl, rfl, by decide +kernel, rfl, by decide +kernel, by decide +kernel⟩, by decide, ⟨fun _ _ _ _ _ _ _ us ws mv h1 h2 h3 _ => match us, ws, mv, h1, h2, h3 with | [_, _], [], [], _, _, _ => rfl, trivial⟩⟩
theorem tx_times : Txt f_times := ⟨⟨rfl, rfl, rfl, by decide +kernel, rfl, by decide +kernel, by decide +kernel⟩, by decide, ⟨fun _ _ _ _ _ _ _ us ws mv h1 h2 h3 _ => match us, ws, mv, h1, h2, h3 with | [_, _], [], [], _, _, _ => rfl, trivial⟩⟩
theorem tx_is_less : Txt f_is_less := ⟨⟨rfl, rfl, rfl, by decide +kernel, rfl, by decide +kernel, by decide +kernel⟩, by decide, ⟨fun _ _ _ _ _ _ _ us ws mv h1 h2 h3 _ => match us, ws, mv, h1, h2, h3 with | [_, _], [], [], _, _, _ => rfl, trivial⟩⟩
theorem tx_are_equal : Txt f_are_equal := ⟨⟨rfl, rfl, rfl, by decide +kernel, rfl, by decide +kernel, by decide +kernel⟩, by decide, ⟨fun _ _ _ _ _ _ _ us ws mv h1 h2 h3 _ => match us, ws, mv, h1, h2, h3 with | [_, _], [], [], _, _, _ => rfl, trivial⟩⟩
theorem tx_is_whole : Txt f_is_whole := ⟨⟨rfl, rfl, rfl, by decide +kernel, rfl, by decide +kernel, by decide +kernel⟩, by decide, ⟨by
    intro D kV doc pm an cdv ct us ws mv h1 h2 h3 h4
    rcases h4 with h4 | rfl
    · exact absurd h4 (by decide)
    · match us, ws, mv, h1, h2, h3 with
      | [_], [_], [_], _, _, _ =>
        refine ⟨_, _, _, _, _, ?_, rfl, ?_, ?_⟩
        rotate_left
        · rfl
        · rfl, trivial⟩⟩
theorem tx_is_worth : Txt f_is_worth := ⟨⟨rfl, rfl, rfl, by decide +kernel, rfl, by decide +kernel, by decide +kernel⟩, by decide, ⟨fun _ _ _ _ _ _ _ us ws mv h1 h2 h3 _ => match us, ws, mv, h1, h2, h3 with | [_], [], [], _, _, _ => rfl, trivial⟩⟩
theorem tx_is_name : Txt f_is_name := ⟨⟨rfl, rfl, rfl, by decide +kernel, rfl, by decide +kernel, by decide +kernel⟩, by decide, ⟨fun _ _ _ _ _ _ _ us ws mv h1 h2 h3 _ => match us, ws, mv, h1, h2, h3 with | [_], [], [], _, _, _ => rfl, trivial⟩⟩
theorem tx_is_op : Txt f_is_op := ⟨⟨rfl, rfl, rfl, by decide +kernel, rfl, by decide +kernel, by decide +kernel⟩, by decide, ⟨fun _ _ _ _ _ _ _ us ws mv h1 h2 h3 _ => match us, ws, mv, h1, h2, h3 with | [_], [], [], _, _, _ => rfl, trivial⟩⟩
theorem tx_is_term_within : Txt f_is_term_within := ⟨⟨rfl, rfl, rfl, by decide +kernel, rfl, by decide +kernel, by decide +kernel⟩, by decide, ⟨fun _ _ _ _ _ _ _ us ws mv h1 h2 h3 _ => match us, ws, mv, h1, h2, h3 with | [_, _], [], [], _, _, _ => rfl, trivial⟩⟩
theorem tx_is_term : Txt f_is_term := ⟨⟨rfl, rfl, rfl, by decide +kernel, rfl, by decide +kernel, by decide +kernel⟩, by decide, ⟨fun _ _ _ _ _ _ _ us ws mv h1 h2 h3 _ => match us, ws, mv, h1, h2, h3 with | [_], [], [], _, _, _ => rfl, trivial⟩⟩
theorem tx__law_pot : Txt f__law_pot := ⟨⟨rfl, rfl, rfl, by decide +kernel, rfl, by decide +kernel, by decide +kernel⟩, by decide, ⟨fun _ _ _ _ _ _ _ us ws mv h1 h2 h3 _ => match us, ws, mv, h1, h2, h3 with | [_, _], [], [], _, _, _ => rfl, trivial⟩⟩
theorem tx__law_take : Txt f__law_take := ⟨⟨rfl, rfl, rfl, by decide +kernel, rfl, by decide +kernel, by decide +kernel⟩, by decide, ⟨fun _ _ _ _ _ _ _ us ws mv h1 h2 h3 _ => match us, ws, mv, h1, h2, h3 with | [_, _], [], [], _, _, _ => rfl, trivial⟩⟩
theorem tx__law_leaf : Txt f__law_leaf := ⟨⟨rfl, rfl, rfl, by decide +kernel, rfl, by decide +kernel, by decide +kernel⟩, by decide, ⟨fun _ _ _ _ _ _ _ us ws mv h1 h2 h3 _ => match us, ws, mv, h1, h2, h3 with | [_], [], [], _, _, _ => rfl, trivial⟩⟩
theorem tx__law_any_term : Txt f__law_any_term := ⟨⟨rfl, rfl, rfl, by decide +kernel, rfl, by decide +kernel, by decide +kernel⟩, by decide, ⟨fun _ _ _ _ _ _ _ us ws mv h1 h2 h3 _ => match us, ws, mv, h1, h2, h3 with | [_, _], [], [], _, _, _ => rfl, trivial⟩⟩
theorem tx__law_sound_term : Txt f__law_sound_term := ⟨⟨rfl, rfl, rfl, by decide +kernel, rfl, by decide +kernel, by decide +kernel⟩, by decide, ⟨fun _ _ _ _ _ _ _ us ws mv h1 h2 h3 _ => match us, ws, mv, h1, h2, h3 with | [_, _], [], [], _, _, _ => rfl, trivial⟩⟩
theorem tx__law_spoilt : Txt f__law_spoilt := ⟨⟨rfl, rfl, rfl, by decide +kernel, rfl, by decide +kernel, by decide +kernel⟩, by decide, ⟨fun _ _ _ _ _ _ _ us ws mv h1 h2 h3 _ => match us, ws, mv, h1, h2, h3 with | [_, _], [], [], _, _, _ => rfl, trivial⟩⟩
theorem tx__law_is_worth : Txt f__law_is_worth := ⟨⟨rfl, rfl, rfl, by decide +kernel, rfl, by decide +kernel, by decide +kernel⟩, by decide, ⟨fun _ _ _ _ _ _ _ us ws mv h1 h2 h3 _ => match us, ws, mv, h1, h2, h3 with | [_], [], [], _, _, _ => rfl, trivial⟩⟩
theorem tx__law_is_name : Txt f__law_is_name := ⟨⟨rfl, rfl, rfl, by decide +kernel, rfl, by decide +kernel, by decide +kernel⟩, by decide, ⟨fun _ _ _ _ _ _ _ us ws mv h1 h2 h3 _ => match us, ws, mv, h1, h2, h3 with | [_], [], [], _, _, _ => rfl, trivial⟩⟩
theorem tx__law_depth : Txt f__law_depth := ⟨⟨rfl, rfl, rfl, by decide +kernel, rfl, by decide +kernel, by decide +kernel⟩, by decide, ⟨fun _ _ _ _ _ _ _ us ws mv h1 h2 h3 _ => match us, ws, mv, h1, h2, h3 with | [_], [], [], _, _, _ => rfl, trivial⟩⟩
theorem tx__law_told : Txt f__law_told := ⟨⟨rfl, rfl, rfl, by decide +kernel, rfl, by decide +kernel, by decide +kernel⟩, by decide, ⟨fun _ _ _ _ _ _ _ us ws mv h1 h2 h3 _ => match us, ws, mv, h1, h2, h3 with | [_], [], [], _, _, _ => rfl, trivial⟩⟩
theorem tx__law_op_right : Txt f__law_op_right := ⟨⟨rfl, rfl, rfl, by decide +kernel, rfl, by decide +kernel, by decide +kernel⟩, by decide, ⟨fun _ _ _ _ _ _ _ us ws mv h1 h2 h3 _ => match us, ws, mv, h1, h2, h3 with | [_, _, _], [], [], _, _, _ => rfl, trivial⟩⟩
theorem tx_law : Txt f_law := ⟨⟨rfl, rfl, rfl, by decide +kernel, rfl, by decide +kernel, by decide +kernel⟩, by decide, ⟨fun _ _ _ _ _ _ _ us ws mv h1 h2 h3 _ => match us, ws, mv, h1, h2, h3 with | [_], [], [], _, _, _ => rfl, trivial⟩⟩
theorem txs : AllF Txt fns := ⟨tx_plus, tx_minus, tx_times, tx_is_less, tx_are_equal, tx_is_whole, tx_is_worth, tx_is_name, tx_is_op, tx_is_term_within, tx_is_term, tx__law_pot, tx__law_take, tx__law_leaf, tx__law_any_term, tx__law_sound_term, tx__law_spoilt, tx__law_is_worth, tx__law_is_name, tx__law_depth, tx__law_told, tx__law_op_right, tx_law, trivial⟩
theorem hb_plus {so : Bool} : HasB (pg so) "plus" f_plus.N.length (Iv.b_t_plus) := ⟨f_plus, by kernel_rfl, rfl, fun c => by kernel_rfl⟩
theorem hb_minus {so : Bool} : HasB (pg so) "minus" f_minus.N.length (Iv.b_t_minus) := ⟨f_minus, by kernel_rfl, rfl, fun c => by kernel_rfl⟩
theorem hb_times {so : Bool} : HasB (pg so) "times" f_times.N.length (Iv.b_t_times) := ⟨f_times, by kernel_rfl, rfl, fun c => by kernel_rfl⟩
theorem hb_is_less {so : Bool} : HasB (pg so) "is_less" f_is_less.N.length (Iv.b_t_is_less) := ⟨f_is_less, by kernel_rfl, rfl, fun c => by kernel_rfl⟩
theorem hb_are_equal {so : Bool} : HasB (pg so) "are_equal" f_are_equal.N.length (Iv.b_t_are_equal) := ⟨f_are_equal, by kernel_rfl, rfl, fun c => by kernel_rfl⟩
theorem hb_is_whole {so : Bool} : HasB (pg so) "is_whole" f_is_whole.N.length (Iv.b_t_is_whole) := ⟨f_is_whole, by kernel_rfl, rfl, fun c => by kernel_rfl⟩
theorem hb_is_worth {so : Bool} : HasB (pg so) "is_worth" f_is_worth.N.length (Iv.b_t_is_worth) := ⟨f_is_worth, by kernel_rfl, rfl, fun c => by kernel_rfl⟩
theorem hb_is_name {so : Bool} : HasB (pg so) "is_name" f_is_name.N.length (Iv.b_t_is_name) := ⟨f_is_name, by kernel_rfl, rfl, fun c => by kernel_rfl⟩
theorem hb_is_op {so : Bool} : HasB (pg so) "is_op" f_is_op.N.length (Iv.b_t_is_op) := ⟨f_is_op, by kernel_rfl, rfl, fun c => by kernel_rfl⟩
theorem hb_is_term_within {so : Bool} : HasB (pg so) "is_term_within" f_is_term_within.N.length (Iv.b_t_is_term_within) := ⟨f_is_term_within, by kernel_rfl, rfl, fun c => by kernel_rfl⟩
theorem hb_is_term {so : Bool} : HasB (pg so) "is_term" f_is_term.N.length (Iv.b_t_is_term) := ⟨f_is_term, by kernel_rfl, rfl, fun c => by kernel_rfl⟩
theorem hb__law_pot {so : Bool} : HasB (pg so) "_law_pot" f__law_pot.N.length (fun _ => potB) := ⟨f__law_pot, by kernel_rfl, rfl, fun c => by kernel_rfl⟩
theorem hb__law_take {so : Bool} : HasB (pg so) "_law_take" f__law_take.N.length (fun _ => takeB) := ⟨f__law_take, by kernel_rfl, rfl, fun c => by kernel_rfl⟩
theorem hb__law_leaf {so : Bool} : HasB (pg so) "_law_leaf" f__law_leaf.N.length (Iv.b_t__law_leaf) := ⟨f__law_leaf, by kernel_rfl, rfl, fun c => by kernel_rfl⟩
theorem hb__law_any_term {so : Bool} : HasB (pg so) "_law_any_term" f__law_any_term.N.length (Iv.b_t__law_any_term) := ⟨f__law_any_term, by kernel_rfl, rfl, fun c => by kernel_rfl⟩
theorem hb__law_sound_term {so : Bool} : HasB (pg so) "_law_sound_term" f__law_sound_term.N.length (Iv.b_t__law_sound_term) := ⟨f__law_sound_term, by kernel_rfl, rfl, fun c => by kernel_rfl⟩
theorem hb__law_spoilt {so : Bool} : HasB (pg so) "_law_spoilt" f__law_spoilt.N.length (Iv.b_t__law_spoilt) := ⟨f__law_spoilt, by kernel_rfl, rfl, fun c => by kernel_rfl⟩
theorem hb__law_is_worth {so : Bool} : HasB (pg so) "_law_is_worth" f__law_is_worth.N.length (Iv.b_t__law_is_worth) := ⟨f__law_is_worth, by kernel_rfl, rfl, fun c => by kernel_rfl⟩
theorem hb__law_is_name {so : Bool} : HasB (pg so) "_law_is_name" f__law_is_name.N.length (Iv.b_t__law_is_name) := ⟨f__law_is_name, by kernel_rfl, rfl, fun c => by kernel_rfl⟩
theorem hb__law_depth {so : Bool} : HasB (pg so) "_law_depth" f__law_depth.N.length (Iv.b_t__law_depth) := ⟨f__law_depth, by kernel_rfl, rfl, fun c => by kernel_rfl⟩
theorem hb__law_told {so : Bool} : HasB (pg so) "_law_told" f__law_told.N.length (Iv.b_t__law_told) := ⟨f__law_told, by kernel_rfl, rfl, fun c => by kernel_rfl⟩
theorem hb__law_op_right {so : Bool} : HasB (pg so) "_law_op_right" f__law_op_right.N.length (Iv.b_t__law_op_right (pg so).glob) := ⟨f__law_op_right, by kernel_rfl, rfl, fun c => by kernel_rfl⟩
theorem hb_law {so : Bool} : HasB (pg so) "law" f_law.N.length (Iv.b_t_law) := ⟨f_law, by kernel_rfl, rfl, fun c => by kernel_rfl⟩
theorem termP {so : Bool} : TermP (pg so) := ⟨hb_is_whole, hb_is_worth, hb_is_name, hb_is_op, hb_is_term_within, hb_is_term, hb__law_is_worth, hb__law_is_name, hb__law_depth, hb__law_told⟩
theorem drawT {so : Bool} : DrawT (pg so) := ⟨termP, hb__law_take, hb__law_leaf, hb__law_any_term, hb__law_sound_term, hb__law_spoilt⟩
theorem opsT {so : Bool} : OpsT (pg so) := ⟨drawT, hb_plus, hb_minus, hb_times, hb_is_less, hb_are_equal, hb__law_op_right, by kernel_rfl, by kernel_rfl, by kernel_rfl, by kernel_rfl, by kernel_rfl⟩
theorem k02L {so : Bool} : K02L (pg so) := ⟨opsT, hb__law_pot, hb_law⟩
theorem told : ∀ so : Bool, Told (pg so) 20 := fun so => Iv.k02_told (k02L (so := so))
end My
open PySem PySem.W PyProof.Rows
set_option maxRecDepth 100000 in
set_option maxHeartbeats 0 in
theorem PySem.Challenge.cw_pacebond_k02_worths_names_terms_holds : PySem.Challenge.rw_pacebond_k02_worths_names_terms.Holds := by
  w_on; o_law; k_head; (case hw => w_witness2)
  k_fill
  refine Iv.walkG (l := PySem.Challenge.rw_pacebond_k02_worths_names_terms) (My.pg false) 20 My.f_law (by kernel_rfl) rfl rfl (by decide) ⟨_, rfl⟩ rfl (by kernel_rfl) (by kernel_rfl) ⟨rfl, by decide, by decide⟩ (fun w mg h Y G => ?_) My.told
  have X := PySem.W.kIn_of Y
  exact ⟨_, X, Iv.says_fact X G My.txs (by kernel_rfl)⟩
