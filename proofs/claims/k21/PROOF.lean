import PyProof.Rows.All
import Wide.All
import OpenK.AllK
import Wide.FinOn
import HandS.ForMost
import HandS.ForExc
import HandS.Walk
import HandS.HeadHook4
import KE.KDictKeyed
import HandS.Lambda
import HandS.ExcCtx
import HandS.NoneIn
import HandS.Property
import HandS.MakeKwOnly
import HandS.ClsMeth
import HandS.Wide
import HandS.IsInst
import HandS.TupAny
import HandS.TupMul
import HandS.Deep
import HandS.RaiseMore
import KE.KTupSum
import HandS.Zip
import KE.GoesEnum
import KE.GoesMore
import KE.KTurns
import HandS.Style
import KE.KStateDown
import HandS.Head0
import HandS.Head1
import HandS.Head2
import HandS.HeadEnd
import HandS.ExcInit
import HandS.ExcField
import HandS.Words
import HandS.HeadWalk
import KE.KTryMore
import KE.KIsAll
import OpenK.KWalk
import HandS.Strs
import HandS.Conv
import KE.KDictWalk
import KE.DataMinMax
import KE.KDictList
import KE.KDictCopyH
import HandS.SetFor
import HandS.SetBool
import HandS.TupSets
import KE.KDictDisplayH
import KE.SortData
import KE.KCallOwn
import PyProof.InstNe
import HandS.Text
import KE.KIntText
import PyProof.Conv_bool
import PyProof.StrLawsRepr
import HandS.Call
import PyProof.NeKinds
import PyProof.ListStr
import HandS.DictSubView0
import PyProof.Rows.StrOr
import PyProof.ReprRoads
import HandS.ExcIs
import KE.DataFind
import PyProof.ExcBaseAll.LookupError
import PyProof.ExcBaseAll.ArithmeticError
import KE.SortKeyHeap
import OpenK.KMeth
import KE.KOpsOwn
import HandS.ListItems
import HandS.More
import KE.KDictPairs
import KE.KEqDict
import HandS.FStr
import HandS.WideBits
import PyProof.TupleOfStr
import HandS.Hot
import KE.GoesComp
import KE.GoesRaise
import KE.KeyNested
import PySem.Challenge.RW_alwaysagree_k21_whole_groups_and_questio
set_option Elab.async false
set_option linter.all false
set_option maxRecDepth 100000
set_option maxHeartbeats 0
namespace Ag
open PySem PySem.Spec PyProof.Rows L2
/-! ### keys: whole numbers, tuples of them, tuples of such tuples -/
mutual
def hashI : NestedKey → Int
  | .num i => hashInt i
  | .tup ks => reduceHash (Builtin.Tuple.tupleHashOf (hashIs ks))
  | _ => 0
def hashIs : List NestedKey → List Int
  | [] => []
  | k :: ks => hashI k :: hashIs ks
end
mutual
def numK : NestedKey → Bool
  | .num _ => true
  | .tup ks => numKs ks
  | _ => false
def numKs : List NestedKey → Bool
  | [] => true
  | k :: ks => numK k && numKs ks
end
mutual
theorem hash_num (w : World) : ∀ k : NestedKey, numK k = true → k.hash w = hashI k
  | .num i, _ => rfl
  | .tup ks, h => by
    simp only [NestedKey.hash, hashI]
    rw [hash_nums w ks (by simpa only [numK] using h)]
  | .none, h => by simp [numK] at h
  | .text _, h => by simp [numK] at h
theorem hash_nums (w : World) : ∀ ks : List NestedKey, numKs ks = true → NestedKey.hashes w ks = hashIs ks
  | [], _ => rfl
  | k :: ks, h => by
    have h := Bool.and_eq_true_iff.mp (show (numK k && numKs ks) = true from h)
    simp only [NestedKey.hashes, hashIs]
    rw [hash_num w k h.1, hash_nums w ks h.2]
end
mutual
/-- the key k stands at v -/
inductive KeyH (K : PySem.W.Frag) (H : Hp) : NestedKey → V → Prop
  | num (i : Int) : KeyH K H (.num i) (.int i)
  | tup {a : Addr} {vs : List V} {ks : List NestedKey} : SqT K H a vs → KeyHs K H ks vs → KeyH K H (.tup ks) (.ref a)
inductive KeyHs (K : PySem.W.Frag) (H : Hp) : List NestedKey → List V → Prop
  | nil : KeyHs K H [] []
  | cons {k : NestedKey} {v : V} {ks : List NestedKey} {vs : List V} : KeyH K H k v → KeyHs K H ks vs → KeyHs K H (k :: ks) (v :: vs)
end
section
variable {X : Cx} {pins : List (Addr × Obj)} {σ : L2.St} {H : Hp} {s : Shared}
mutual
theorem key_is (I : L2.Inv X pins σ H s) : ∀ {k : NestedKey} {v : V} {u : Value}, KeyH X.K H k v → RelV v u → NestedIs s.heap k u
  | _, _, _, .num i, r => by
    obtain ⟨t, rfl⟩ := r
    exact .int i t
  | _, _, _, .tup (a := a) h g, r => by
    cases r
    obtain ⟨its, rv, ⟨o, ho, hc, n, hd⟩, _⟩ := I.tuple h
    exact .tup ho hc hd (by simpa using keys_are I g rv)
theorem keys_are (I : L2.Inv X pins σ H s) : ∀ {ks : List NestedKey} {vs : List V} {us : List Value}, KeyHs X.K H ks vs → Vals vs us → NestedAll s.heap ks us
  | _, _, _, .nil, .nil => .nil
  | _, _, _, .cons h g, .cons r q => .cons (key_is I h r) (keys_are I g q)
end
/-- the entries of the dict at a -/
def dicP (a : Addr) (o : Obj) (xs : List (NestedKey × Addr × Value)) (h : Heap) : Prop := (a == sysModules) = false ∧ h.get? a = some o ∧ ∃ es ep, o.ExactDict ∧ o.data = .dict es ep ∧ es.toList = xs.map fun x => (⟨hashI x.1, .ref x.2.1, x.2.2⟩ : DictEntry)
def DicO (a : Addr) (o : Obj) (xs : List (NestedKey × Addr × Value)) : HO := .ext (dicP a o xs)
/-- a dict is no code object -/
theorem dic_ne_code (a : Addr) (o : Obj) (xs : List (NestedKey × Addr × Value)) (q : Str) : DicO a o xs ≠ LamX.CodeO a q := by
  intro e
  unfold DicO LamX.CodeO at e
  have e1 := HO.ext.inj e
  have o1 : (⟨Array.replicate (a + 1) { cls := .none, data := .fields #[.none, .str q 0] }, {}⟩ : Heap).get? a = some { cls := .none, data := .fields #[.none, .str q 0] } := by
    simp [Heap.get?]
  have e2 := congrFun e1 (⟨Array.replicate (a + 1) { cls := .none, data := .fields #[.none, .str q 0] }, {}⟩ : Heap)
  have h : dicP a o xs (⟨Array.replicate (a + 1) { cls := .none, data := .fields #[.none, .str q 0] }, {}⟩ : Heap) := by
    rw [e2]
    exact ⟨_, _, 0, o1, rfl, rfl⟩
  obtain ⟨_, h1, es, ep, _, h2, _⟩ := h
  rw [o1] at h1
  cases h1
  cases h2
/-- an error's object -/
def ErO (a : Addr) (o : Obj) : HO := .ext fun h => h.get? a = some o
theorem erO_ok {P : Program} {w : World} {H : Hp} {h : Heap} {a : Addr} {o : Obj} (e : h.get? a = some o) : ObjOk P w H h a (ErO a o) := ⟨e, ⟨o, e⟩, fun h1 h2 p k => k o p⟩
/-- a lambda of a maker: its text, the names it holds, their places in the maker -/
structure LSyn where
  pr : Arguments
  bd : Expr
  sc : Scope
  ys : List Str
  cp : List Nat
theorem nfz {H : Hp} {a : Addr} {u : HO} (h : H a = some u) (n : ∀ x y, u ≠ HO.frz x y := by exact fun _ _ => nofun) : ∀ x y, H a ≠ some (HO.frz x y) := fun x y z => by
  rw [h] at z
  exact n x y (Option.some.inj z)
/-- what stands of the keys of a dict -/
structure Keyed (K : PySem.W.Frag) (H : Hp) (xs : List (NestedKey × Addr × Value)) : Prop where
  key : ∀ x ∈ xs, KeyH K H x.1 (.ref x.2.1) ∧ numK x.1 = true ∧ x.1.depth ≤ 8
  nd : (xs.map (·.1)).Nodup
end
end Ag

/-! Ag: plain data D, a store of cells, and how they stand in the layer's abstract heap. -/
namespace Ag
open PySem L2

inductive D where
  | non | bl (b : Bool) | int (i : Int) | str (x : Str) | ty (n : String) | gl (x : Str)
  | tup (l : List D) | lst (l : List D) | scr (l : List D) | ref (i : Nat) | obj (c : Str) (ns : List Str) (l : List D) | dct (l : List D)

inductive Ob where
  | lst (l : List D) | ins (c : Str) (ns : List Str) (l : List D) | dic (l : List D) | dik (l : List (Key × D)) | tab (P : Addr) (q : Str) | err (c : Str) (fs : List (Str × D)) | clo (k : Nat) (L : LSyn) (q : Str) (ds : List D) | fz
abbrev Sto := List Ob
abbrev En := List (Option D)

def D.isS : D → Bool
  | .str _ => true
  | _ => false
def D.isN : D → Bool
  | .str _ => true
  | .tup [.str _, .obj _ _ _] => true
  | _ => false
/-- a tuple of texts, or of texts with things, one at least: no dict stands in its object -/
def names : List D → Bool
  | [] => false
  | l => l.all D.isN
def NoD (H : Hp) (a : Addr) : Prop := ∃ o u, H a = some (.frz o u) ∧ o.dict = none
def optK (f : D → Option NestedKey) : List D → Option (List NestedKey)
  | [] => some []
  | d :: l => (f d).bind fun k => (optK f l).map (k :: ·)
/-- a key of a dict -/
def keyF : Nat → D → Option NestedKey
  | _, .int i => some (.num i)
  | f + 1, .tup l => (optK (keyF f) l).map .tup
  | _, _ => none
def keyD (d : D) : Option NestedKey := keyF 4 d
/-- the cells' addresses, and addresses that no value may name -/
structure Mp where
  c : List Addr
  h : List Addr
def Off (m : Mp) (a : Addr) : Prop := a ∉ m.c ∧ a ∉ m.h
section
variable (K : PySem.W.Frag)
mutual
inductive Rep (m : Mp) (H : Hp) : V → D → Prop
  | non : Rep m H .non .non
  | bl (b : Bool) : Rep m H (.bl b) (.bl b)
  | int (i : Int) : Rep m H (.int i) (.int i)
  | str (x : Str) : Rep m H (.str x) (.str x)
  | ty (n : String) : Rep m H (.ty n) (.ty n)
  | gl (x : Str) : Rep m H (.ref (He.ga K x)) (.gl x)
  | tup {a : Addr} {xs : List V} {ds : List D} : SqT K H a xs → (names ds = true → NoD H a) → Reps m H xs ds → Rep m H (.ref a) (.tup ds)
  | lst {a : Addr} {xs : List V} {ds : List D} : H a = some (.lst xs) → Off m a → Reps m H xs ds → Rep m H (.ref a) (.lst ds)
  | scr {a : Addr} {xs : List V} {ds : List D} : ((∃ o, H a = some (.frz o (.lst xs))) ∨ ∀ H', SqL K H' a xs) → Reps m H xs ds → Rep m H (.ref a) (.scr ds)
  | ref {a : Addr} {i : Nat} : m.c[i]? = some a → Rep m H (.ref a) (.ref i)
  | obj {a dx : Addr} {c : Str} {fs : List (Str × V)} {ns : List Str} {ds : List D} : H a = some (.ins (He.ga K c) dx fs) → Off m a → fs.map (·.1) = ns → Reps m H (fs.map (·.2)) ds → Rep m H (.ref a) (.obj c ns ds)
  | dct {a : Addr} {o : Obj} {l : List D} {xs : List (NestedKey × Addr × Value)} : H a = some (DicO a o xs) → Off m a → DicR m H l xs → (xs.map (·.1)).Nodup → Rep m H (.ref a) (.dct l)
/-- keys and values by turns, and the entries of a dict -/
inductive DicR (m : Mp) (H : Hp) : List D → List (NestedKey × Addr × Value) → Prop
  | nil : DicR m H [] []
  | cons {kd vd : D} {k : NestedKey} {b : Addr} {u : Value} {v : V} {l : List D} {xs : List (NestedKey × Addr × Value)} : keyD kd = some k → Rep m H (.ref b) kd → RelV v u → Rep m H v vd → DicR m H l xs → DicR m H (kd :: vd :: l) ((k, b, u) :: xs)
inductive Reps (m : Mp) (H : Hp) : List V → List D → Prop
  | nil : Reps m H [] []
  | cons {v : V} {vs : List V} {d : D} {ds : List D} : Rep m H v d → Reps m H vs ds → Reps m H (v :: vs) (d :: ds)
end

/-- a thing that does not change any more, by its object -/
def frzO (a : Addr) (o : Obj) : HO := .frz o (ErO a o)
/-- a variable's cell: its address, its object, the value in it -/
structure CelV where
  c : Addr
  o : Obj
  v : V
/-- what a function's closure cl holds for the names ys -/
structure CloV (ys : List Str) (cl : List (Str × Addr)) (l : List CelV) : Prop where
  len : l.length = ys.length
  at_ : ∀ (i : Nat) (y : Str), ys[i]? = some y → ∃ p, l[i]? = some p ∧ cl.lookup y = some p.c
  only : ∀ (y : Str) (c : Addr), cl.lookup y = some c → y ∈ ys
  nd : (l.map (·.c)).Nodup
  val : ∀ p ∈ l, ∃ u, p.o.data = .cell (some u) ∧ RelV p.v u
def ExR (m : Mp) (H : Hp) : Option Addr → List (Str × D) → Prop
  | none, fs => fs = []
  | some d, fs => ∃ vs : List (Str × V), H d = some (.xd vs) ∧ Off m d ∧ vs.map (·.1) = fs.map (·.1) ∧ Reps K m H (vs.map (·.2)) (fs.map (·.2))
def ObR (m : Mp) (H : Hp) (a : Addr) : Ob → Prop
  | .dic l => ∃ o xs, H a = some (DicO a o xs) ∧ DicR K m H l xs ∧ (xs.map (·.1)).Nodup
  | .dik l => ∃ kvs : List (Key × V), H a = some (.dK kvs) ∧ kvs.map (·.1) = l.map (·.1) ∧ Reps K m H (kvs.map (·.2)) (l.map (·.2))
  | .lst ds => ∃ vs, H a = some (.lst vs) ∧ Reps K m H vs ds
  | .ins c ns ds => ∃ dx fs, H a = some (.ins (He.ga K c) dx fs) ∧ fs.map (·.1) = ns ∧ Reps K m H (fs.map (·.2)) ds
  | .tab P q => a = P ∧ LamX.TabS H P q
  | .err c fs => ∃ o : Obj, H a = some (.frz o (ErO a o)) ∧ o.cls = .ref (He.ga K c) ∧ (∃ vs, o.data = .fields vs) ∧ PXN.CtxN o ∧ ExR K m H o.dict fs
  | .clo _ L q ds => ∃ (d : Addr) (pm ctv : Value) (cl : List (Str × Addr)) (l : List CelV), H a = some (frzO a (PySem.W.kla_obj "<lambda>" q L.pr L.bd L.sc cl pm d ctv)) ∧ H d = some (LamX.CodeO d q) ∧ CloV L.ys cl l ∧ (∀ p ∈ l, H p.c = some (frzO p.c p.o) ∧ Off m p.c) ∧ Reps K m H (l.map (·.v)) ds
  | .fz => ∃ o : Obj, H a = some (frzO a o) ∧ ∀ v, o.data ≠ .cell v

structure Sim (m : Mp) (S : Sto) (H : Hp) : Prop where
  len : m.c.length = S.length
  nd : m.c.Nodup
  cell : ∀ (i : Nat) (a : Addr) (o : Ob), m.c[i]? = some a → S[i]? = some o → ObR K m H a o
  hid : ∀ a ∈ m.h, ∃ o, H a = some o
  dis : ∀ a ∈ m.c, a ∉ m.h
end

structure Tr (m : Mp) (H : Hp) (m' : Mp) (H' : Hp) : Prop where
  pre : ∃ ex, m'.c = m.c ++ ex ∧ ∀ a ∈ ex, H a = none ∨ a ∈ m.h
  hid : ∀ a ∈ m'.h, a ∈ m.h ∨ H a = none
  keep : ∀ a o, H a = some o → Off m a → H' a = some o
  tup : ∀ a xs, H a = some (.tup xs) → H' a = some (.tup xs)
  frz : ∀ a o u, H a = some (.frz o u) → H' a = some (.frz o u)
  cod : ∀ a q, H a = some (LamX.CodeO a q) → H' a = some (LamX.CodeO a q)
structure Ext (m : Mp) (H : Hp) (m' : Mp) (H' : Hp) : Prop where
  pre : ∃ ex, m'.c = m.c ++ ex ∧ ∀ a ∈ ex, H a = none
  hs : m'.h = m.h
  trk : ∀ a o, H a = some o → ∃ o', H' a = some o'
  keep : ∀ a o, H a = some o → a ∉ m.c → H' a = some o
  tup : ∀ a xs, H a = some (.tup xs) → H' a = some (.tup xs)
  frz : ∀ a o u, H a = some (.frz o u) → H' a = some (.frz o u)
  cod : ∀ a q, H a = some (LamX.CodeO a q) → H' a = some (LamX.CodeO a q)
theorem Ext.tr {m m' : Mp} {H H' : Hp} (e : Ext m H m' H') : Tr m H m' H' := ⟨let ⟨ex, h1, h2⟩ := e.pre; ⟨ex, h1, fun a ha => .inl (h2 a ha)⟩, fun a h => .inl (by rw [← e.hs]; exact h), fun a o h n => e.keep a o h n.1, e.tup, e.frz, e.cod⟩
theorem Ext.refl {m : Mp} {H : Hp} : Ext m H m H := ⟨⟨[], by simp, by simp⟩, rfl, fun _ o h => ⟨o, h⟩, fun _ _ h _ => h, fun _ _ h => h, fun _ _ _ h => h, fun _ _ h => h⟩
theorem Ext.memc {m m' : Mp} {H H' : Hp} (e : Ext m H m' H') {a : Addr} {o : HO} (h : H a = some o) (n : a ∉ m.c) : a ∉ m'.c := by
  obtain ⟨ex, e1, hx⟩ := e.pre
  rw [e1]
  intro hm
  rcases List.mem_append.mp hm with h1 | h1
  · exact n h1
  · rw [hx a h1] at h; cases h
theorem Tr.mem {m m' : Mp} {H H' : Hp} (e : Tr m H m' H') {a : Addr} {o : HO} (h : H a = some o) (n : Off m a) : Off m' a := by
  obtain ⟨ex, e1, hx⟩ := e.pre
  refine ⟨?_, fun hm => ?_⟩
  · rw [e1]
    intro hm
    rcases List.mem_append.mp hm with h1 | h1
    · exact n.1 h1
    · rcases hx a h1 with h2 | h2
      · rw [h2] at h; cases h
      · exact n.2 h2
  · rcases e.hid a hm with h1 | h1
    · exact n.2 h1
    · rw [h1] at h; cases h
theorem pre_at {m m' : Mp} {ex : List Addr} (e : m'.c = m.c ++ ex) {a : Addr} {i : Nat} (h : m.c[i]? = some a) : m'.c[i]? = some a := by
  rw [e, List.getElem?_append_left (List.getElem?_eq_some_iff.mp h).1]
  exact h
theorem Ext.trans {m m1 m2 : Mp} {H H1 H2 : Hp} (a : Ext m H m1 H1) (b : Ext m1 H1 m2 H2) : Ext m H m2 H2 := by
  obtain ⟨ex, e1, hx⟩ := a.pre
  obtain ⟨ey, e2, hy⟩ := b.pre
  refine ⟨⟨ex ++ ey, by rw [e2, e1]; simp, fun c hc => ?_⟩, b.hs.trans a.hs, fun c o h => ?_, fun c o h n => b.keep c o (a.keep c o h n) (a.memc h n), fun c xs h => b.tup c xs (a.tup c xs h), fun c o u h => b.frz c o u (a.frz c o u h), fun c q h => b.cod c q (a.cod c q h)⟩
  · rcases List.mem_append.mp hc with h1 | h1
    · exact hx c h1
    · have h2 := hy c h1
      cases q : H c with
      | none => rfl
      | some o =>
        obtain ⟨o', q'⟩ := a.trk c o q
        rw [q'] at h2; cases h2
  · obtain ⟨o', q'⟩ := a.trk c o h
    exact b.trk c o' q'

section
variable {K : PySem.W.Frag} {m m' : Mp} {H H' : Hp}
theorem SqT.ext (e : Tr m H m' H') {a : Addr} {xs : List V} (h : SqT K H a xs) : SqT K H' a xs := by
  rcases h with (h | ⟨o, h⟩) | h
  · exact .inl (.inl (e.tup _ _ h))
  · exact .inl (.inr ⟨o, e.frz _ _ _ h⟩)
  · exact .inr h
mutual
theorem Rep.ext (e : Tr m H m' H') : ∀ (d : D) (v : V), Rep K m H v d → Rep K m' H' v d
  | .non, v, h => by cases h; exact .non
  | .bl b, v, h => by cases h; exact .bl b
  | .int b, v, h => by cases h; exact .int b
  | .str b, v, h => by cases h; exact .str b
  | .ty b, v, h => by cases h; exact .ty b
  | .gl b, v, h => by cases h; exact .gl b
  | .tup l, v, h => by
    cases h with
    | tup h1 hd h2 => exact .tup (SqT.ext e h1) (fun z => let ⟨o, u, a, b⟩ := hd z; ⟨o, u, e.frz _ _ _ a, b⟩) (Reps.ext e l _ h2)
  | .lst l, v, h => by
    cases h with
    | lst h1 h2 h3 => exact .lst (e.keep _ _ h1 h2) (e.mem h1 h2) (Reps.ext e l _ h3)
  | .scr l, v, h => by
    cases h with
    | scr h1 h2 =>
      refine .scr ?_ (Reps.ext e l _ h2)
      rcases h1 with ⟨o, h1⟩ | h1
      · exact .inl ⟨o, e.frz _ _ _ h1⟩
      · exact .inr h1
  | .ref i, v, h => by
    cases h with
    | ref h1 =>
      obtain ⟨ex, e1, _⟩ := e.pre
      exact .ref (pre_at e1 h1)
  | .obj c ns l, v, h => by
    cases h with
    | obj h1 h2 h3 h4 => exact .obj (e.keep _ _ h1 h2) (e.mem h1 h2) h3 (Reps.ext e l _ h4)
  | .dct l, v, h => by
    cases h with
    | dct h1 h2 h3 h4 => exact .dct (e.keep _ _ h1 h2) (e.mem h1 h2) (DicR.ext e l _ h3) h4
theorem DicR.ext (e : Tr m H m' H') : ∀ (l : List D) (xs : List (NestedKey × Addr × Value)), DicR K m H l xs → DicR K m' H' l xs
  | [], xs, h => by cases h; exact .nil
  | [_], xs, h => by cases h
  | kd :: vd :: l, xs, h => by
    cases h with
    | cons a b c d r => exact .cons a (Rep.ext e kd _ b) c (Rep.ext e vd _ d) (DicR.ext e l _ r)
theorem Reps.ext (e : Tr m H m' H') : ∀ (ds : List D) (vs : List V), Reps K m H vs ds → Reps K m' H' vs ds
  | [], vs, h => by cases h; exact .nil
  | d :: ds, vs, h => by
    cases h with
    | cons h1 h2 => exact .cons (Rep.ext e d _ h1) (Reps.ext e ds _ h2)
end
theorem DicR.tr (e : Tr m H m' H') {l : List D} {xs : List (NestedKey × Addr × Value)} (h : DicR K m H l xs) : DicR K m' H' l xs := DicR.ext e l xs h
theorem Rep.tr (e : Tr m H m' H') {d : D} {v : V} (h : Rep K m H v d) : Rep K m' H' v d := Rep.ext e d v h
theorem Rep.to (e : Ext m H m' H') {d : D} {v : V} (h : Rep K m H v d) : Rep K m' H' v d := Rep.ext e.tr d v h
theorem Reps.tr (e : Tr m H m' H') {ds : List D} {vs : List V} (h : Reps K m H vs ds) : Reps K m' H' vs ds := Reps.ext e ds vs h
theorem Reps.to (e : Ext m H m' H') {ds : List D} {vs : List V} (h : Reps K m H vs ds) : Reps K m' H' vs ds := Reps.ext e.tr ds vs h
theorem Reps.len : ∀ {vs : List V} {ds : List D}, Reps K m H vs ds → vs.length = ds.length
  | [], [], _ => rfl
  | [], _ :: _, h => by cases h
  | _ :: _, [], h => by cases h
  | _ :: vs, _ :: ds, h => by
    cases h with
    | cons _ h2 => simp [Reps.len h2]
theorem Reps.get : ∀ {vs : List V} {ds : List D} {i : Nat} {d : D}, Reps K m H vs ds → ds[i]? = some d → ∃ v, vs[i]? = some v ∧ Rep K m H v d
  | [], [], _, _, _, e => by simp at e
  | [], _ :: _, _, _, h, _ => by cases h
  | _ :: _, [], _, _, h, _ => by cases h
  | v :: vs, c :: ds, 0, d, h, e => by
    cases h with
    | cons h1 _ =>
      have e' : c = d := by simpa using e
      subst e'
      exact ⟨v, rfl, h1⟩
  | v :: vs, c :: ds, i + 1, d, h, e => by
    cases h with
    | cons _ h2 =>
      obtain ⟨w, h3, h4⟩ := Reps.get (i := i) (d := d) h2 (by simpa using e)
      exact ⟨w, by simpa using h3, h4⟩
theorem Reps.app : ∀ {vs us : List V} {ds es : List D}, Reps K m H vs ds → Reps K m H us es → Reps K m H (vs ++ us) (ds ++ es)
  | [], _, [], _, _, h => h
  | [], _, _ :: _, _, h, _ => by cases h
  | _ :: _, _, [], _, h, _ => by cases h
  | v :: vs, us, d :: ds, es, h, g => by
    cases h with
    | cons h1 h2 => exact .cons h1 (Reps.app h2 g)
theorem Reps.drop : ∀ {vs : List V} {ds : List D} (n : Nat), Reps K m H vs ds → Reps K m H (vs.drop n) (ds.drop n)
  | _, _, 0, h => by simpa using h
  | [], [], n + 1, h => by simpa using h
  | [], _ :: _, _ + 1, h => by cases h
  | _ :: _, [], _ + 1, h => by cases h
  | v :: vs, d :: ds, n + 1, h => by
    cases h with
    | cons _ h2 => simpa using Reps.drop n h2
theorem Reps.take : ∀ {vs : List V} {ds : List D} (n : Nat), Reps K m H vs ds → Reps K m H (vs.take n) (ds.take n)
  | _, _, 0, h => by simpa using Reps.nil
  | [], [], n + 1, h => by simpa using h
  | [], _ :: _, _ + 1, h => by cases h
  | _ :: _, [], _ + 1, h => by cases h
  | v :: vs, d :: ds, n + 1, h => by
    cases h with
    | cons h1 h2 => simpa using Reps.cons h1 (Reps.take n h2)
theorem Reps.set : ∀ {vs : List V} {ds : List D} {v : V} {d : D} (n : Nat), Reps K m H vs ds → Rep K m H v d → Reps K m H (vs.set n v) (ds.set n d)
  | [], [], _, _, n, h, _ => by simpa using h
  | [], _ :: _, _, _, _, h, _ => by cases h
  | _ :: _, [], _, _, _, h, _ => by cases h
  | w :: vs, c :: ds, v, d, 0, h, r => by
    cases h with
    | cons _ h2 => exact .cons r h2
  | w :: vs, c :: ds, v, d, n + 1, h, r => by
    cases h with
    | cons h1 h2 => exact .cons h1 (Reps.set n h2 r)
theorem Reps.erase : ∀ {vs : List V} {ds : List D} (n : Nat), Reps K m H vs ds → Reps K m H (vs.eraseIdx n) (ds.eraseIdx n)
  | [], [], n, h => by simpa using h
  | [], _ :: _, _, h => by cases h
  | _ :: _, [], _, h => by cases h
  | w :: vs, c :: ds, 0, h => by
    cases h with
    | cons _ h2 => simpa using h2
  | w :: vs, c :: ds, n + 1, h => by
    cases h with
    | cons h1 h2 => simpa using Reps.cons h1 (Reps.erase n h2)
theorem Reps.flatten {vs : List V} {ds : List D} (h : Reps K m H vs ds) : ∀ k : Nat, Reps K m H (List.replicate k vs).flatten (List.replicate k ds).flatten
  | 0 => by simpa using Reps.nil
  | k + 1 => by
    simp only [List.replicate_succ, List.flatten_cons]
    exact h.app (Reps.flatten h k)

theorem ExR.tr (e : Tr m H m' H') {od : Option Addr} {fs : List (Str × D)} (h : ExR K m H od fs) : ExR K m' H' od fs := by
  cases od with
  | none => exact h
  | some d =>
    obtain ⟨vs, h1, h2, h3, h4⟩ := h
    exact ⟨vs, e.keep _ _ h1 h2, e.mem h1 h2, h3, h4.tr e⟩
theorem ObR.tr (e : Tr m H m' H') {a : Addr} {o : Ob} (h : ObR K m H a o) (same : H' a = H a) : ObR K m' H' a o := by
  cases o with
  | lst ds =>
    obtain ⟨vs, h1, h2⟩ := h
    exact ⟨vs, by rw [same]; exact h1, h2.tr e⟩
  | ins c ns ds =>
    obtain ⟨dx, fs, h1, h2, h3⟩ := h
    exact ⟨dx, fs, by rw [same]; exact h1, h2, h3.tr e⟩
  | dic l =>
    obtain ⟨o, xs, h1, h2, h3⟩ := h
    exact ⟨o, xs, by rw [same]; exact h1, h2.tr e, h3⟩
  | dik l =>
    obtain ⟨kvs, h1, h2, h3⟩ := h
    exact ⟨kvs, by rw [same]; exact h1, h2, h3.tr e⟩
  | tab P q =>
    obtain ⟨rfl, ps, h1, h2, h3⟩ := h
    exact ⟨rfl, ps, by rw [same]; exact h1, h2, fun pos cv hc => let ⟨c, e1, e2⟩ := h3 pos cv hc; ⟨c, e1, e.cod _ _ e2⟩⟩
  | err c fs =>
    obtain ⟨o, h1, h2, h3, h5, h4⟩ := h
    exact ⟨o, by rw [same]; exact h1, h2, h3, h5, h4.tr e⟩
  | clo k L q ds =>
    obtain ⟨d, pm, ctv, cl, l, h1, h2, h3, h4, h5⟩ := h
    exact ⟨d, pm, ctv, cl, l, by rw [same]; exact h1, e.cod _ _ h2, h3, fun p hp => ⟨e.frz _ _ _ (h4 p hp).1, e.mem (h4 p hp).1 (h4 p hp).2⟩, h5.tr e⟩
  | fz =>
    obtain ⟨o, h1, h2⟩ := h
    exact ⟨o, by rw [same]; exact h1, h2⟩
theorem Sim.trk {S : Sto} (s : Sim K m S H) {a : Addr} (h : a ∈ m.c) : ∃ o, H a = some o ∧ (∀ xs, o ≠ .tup xs) ∧ ∀ q, o ≠ LamX.CodeO a q := by
  obtain ⟨i, hi, e⟩ := List.mem_iff_getElem.mp h
  have hi2 : i < S.length := by rw [← s.len]; exact hi
  have := s.cell i a S[i] (by rw [List.getElem?_eq_getElem hi, e]) (List.getElem?_eq_getElem hi2)
  cases q : S[i] with
  | lst ds => rw [q] at this; obtain ⟨vs, h1, _⟩ := this; exact ⟨_, h1, fun _ => nofun, fun _ => nofun⟩
  | ins c ns ds => rw [q] at this; obtain ⟨dx, fs, h1, _⟩ := this; exact ⟨_, h1, fun _ => nofun, fun _ => nofun⟩
  | dic l => rw [q] at this; obtain ⟨o, xs, h1, _⟩ := this; exact ⟨_, h1, fun _ => nofun, fun q => dic_ne_code a o xs q⟩
  | dik l => rw [q] at this; obtain ⟨kvs, h1, _⟩ := this; exact ⟨_, h1, fun _ => nofun, fun _ => nofun⟩
  | tab P q' => rw [q] at this; obtain ⟨rfl, ps, h1, _⟩ := this; exact ⟨_, h1, fun _ => nofun, fun _ => nofun⟩
  | err c fs => rw [q] at this; obtain ⟨o, h1, h2, _⟩ := this; exact ⟨_, h1, fun _ => nofun, fun _ => nofun⟩
  | clo k L q' ds => rw [q] at this; obtain ⟨d, pm, ctv, cl, l, h1, _⟩ := this; exact ⟨_, h1, fun _ => nofun, fun _ => nofun⟩
  | fz => rw [q] at this; obtain ⟨o, h1, _⟩ := this; exact ⟨_, h1, fun _ => nofun, fun _ => nofun⟩
theorem Sim.fresh {S : Sto} (s : Sim K m S H) {p : Addr} (h : H p = none) : p ∉ m.c := fun hm => by
  obtain ⟨o, e, _⟩ := s.trk hm
  rw [h] at e; cases e
theorem Sim.off {S : Sto} (s : Sim K m S H) {p : Addr} (h : H p = none) : Off m p := ⟨s.fresh h, fun hm => by
    obtain ⟨o, e⟩ := s.hid p hm
    rw [h] at e; cases e⟩
/-- a new object, not a cell -/
theorem Ext.new {p : Addr} {o : HO} (h : H p = none) : Ext m H m (upd H p o) := by
  have k : ∀ a u, H a = some u → (upd H p o) a = some u := fun a u q => by rw [upd_ne (ne_of_none q h)]; exact q
  exact ⟨⟨[], by simp, by simp⟩, rfl, fun a u q => ⟨u, k a u q⟩, fun a u q _ => k a u q, fun a xs q => k a _ q, fun a u x q => k a _ q, fun a c q => k a _ q⟩
theorem Sim.same {S : Sto} (s : Sim K m S H) (hc : m'.c = m.c) (e : Tr m H m' H') (h : ∀ a ∈ m.c, H' a = H a) (hh : ∀ a ∈ m'.h, ∃ o, H' a = some o) (hd : ∀ a ∈ m'.c, a ∉ m'.h) : Sim K m' S H' :=
  ⟨by rw [hc]; exact s.len, by rw [hc]; exact s.nd, fun i a o h1 h2 => by
    rw [hc] at h1
    exact (s.cell i a o h1 h2).tr e (h a (List.mem_of_getElem? h1)), hh, hd⟩
theorem Sim.new {S : Sto} (s : Sim K m S H) {p : Addr} {o : HO} (h : H p = none) : Sim K m S (upd H p o) :=
  s.same rfl (Ext.new h).tr (fun a ha => upd_ne (fun z => s.fresh h (z ▸ ha))) (fun a ha => by
    obtain ⟨u, q⟩ := s.hid a ha
    exact (Ext.new (m := m) h).trk a u q) s.dis
/-- a new cell -/
def Mp.add (m : Mp) (p : Addr) : Mp := ⟨m.c ++ [p], m.h⟩
theorem Ext.cell {p : Addr} {o : HO} (h : H p = none) : Ext m H (m.add p) (upd H p o) := by
  have k : ∀ a u, H a = some u → (upd H p o) a = some u := fun a u q => by rw [upd_ne (ne_of_none q h)]; exact q
  exact ⟨⟨[p], rfl, fun a ha => by
    have : a = p := by simpa using ha
    rw [this]; exact h⟩, rfl, fun a u q => ⟨u, k a u q⟩, fun a u q _ => k a u q, fun a xs q => k a _ q, fun a u x q => k a _ q, fun a c q => k a _ q⟩
theorem Sim.grow {S : Sto} {ob : Ob} (s : Sim K m S H) {p : Addr} {o : HO} (h : H p = none) (r : ObR K (m.add p) (upd H p o) p ob) : Sim K (m.add p) (S ++ [ob]) (upd H p o) := by
  refine ⟨by simp [Mp.add, s.len], ?_, fun i a u h1 h2 => ?_, fun a ha => by
    obtain ⟨u, q⟩ := s.hid a ha
    exact (Ext.cell (m := m) h).trk a u q, fun a ha => by
    rcases List.mem_append.mp (show a ∈ m.c ++ [p] from ha) with z | z
    · exact s.dis a z
    · have e : a = p := by simpa using z
      rw [e]; exact (s.off h).2⟩
  · show (m.c ++ [p]).Nodup
    rw [List.nodup_append]
    refine ⟨s.nd, by simp, fun a ha b hb => ?_⟩
    have : b = p := by simpa using hb
    subst this
    intro z; subst z; exact s.fresh h ha
  · have h1 : (m.c ++ [p])[i]? = some a := h1
    by_cases hi : i < m.c.length
    · rw [List.getElem?_append_left hi] at h1
      rw [List.getElem?_append_left (by rw [← s.len]; exact hi)] at h2
      exact (s.cell i a u h1 h2).tr (Ext.cell h).tr (upd_ne fun z => s.fresh h (z ▸ List.mem_of_getElem? h1))
    · have e : i = m.c.length := by
        have := (List.getElem?_eq_some_iff.mp h1).1
        simp at this; omega
      subst e
      have e1 : p = a := by simpa using h1
      have e2 : ob = u := by rw [s.len] at h2; simpa using h2
      subst e1 e2
      exact r
theorem Sim.last {S : Sto} (s : Sim K m S H) (p : Addr) : (m.add p).c[S.length]? = some p := by
  show (m.c ++ [p])[S.length]? = some p
  rw [← s.len]; simp
/-- a cell is written -/
theorem Ext.put {S : Sto} (s : Sim K m S H) {a : Addr} {u : HO} (hm : a ∈ m.c) (nf : ∀ x y, H a ≠ some (.frz x y)) : Ext m H m (upd H a u) := by
  obtain ⟨o, h, h1, h3⟩ := s.trk hm
  refine ⟨⟨[], by simp, by simp⟩, rfl, fun b w q => ?_, fun b w q n => ?_, fun b xs q => ?_, fun b x y q => ?_, fun b c q => ?_⟩
  · by_cases e : b = a
    · subst e; exact ⟨u, upd_same⟩
    · exact ⟨w, by rw [upd_ne e]; exact q⟩
  · rw [upd_ne (fun z => n (by rw [z]; exact hm))]; exact q
  · rw [upd_ne fun z => h1 xs (by rw [z, h] at q; exact Option.some.inj q)]; exact q
  · rw [upd_ne fun z => nf x y (by rw [z] at q; exact q)]; exact q
  · rw [upd_ne fun z => h3 c (by subst z; rw [h] at q; exact Option.some.inj q)]; exact q
theorem Sim.put {S : Sto} {a : Addr} {u : HO} {i : Nat} {ob : Ob} (s : Sim K m S H) (hi : m.c[i]? = some a) (r : ObR K m (upd H a u) a ob) (nf : ∀ x y, H a ≠ some (.frz x y)) : Sim K m (S.set i ob) (upd H a u) := by
  have e : Ext m H m (upd H a u) := Ext.put s (List.mem_of_getElem? hi) nf
  refine ⟨by simp [s.len], s.nd, fun j b w h1 h2 => ?_, fun b hb => by
    obtain ⟨w, q⟩ := s.hid b hb
    exact e.trk b w q, s.dis⟩
  by_cases hj : j = i
  · subst hj
    rw [hi] at h1; cases h1
    have hjl : j < S.length := by
      have := (List.getElem?_eq_some_iff.mp hi).1
      rw [← s.len]; exact this
    rw [List.getElem?_set_self hjl] at h2
    cases h2
    exact r
  · rw [List.getElem?_set_ne (Ne.symm hj)] at h2
    refine (s.cell j b w h1 h2).tr e.tr (upd_ne fun z => hj ?_)
    subst z
    exact (List.getElem?_inj (List.getElem?_eq_some_iff.mp h1).1 s.nd).mp (h1.trans hi.symm)
/-- an address is hidden, and opened again -/
def Mp.hide (m : Mp) (p : Addr) : Mp := ⟨m.c, p :: m.h⟩
theorem Tr.hide {p : Addr} {o : HO} (h : H p = none) : Tr m H (m.hide p) (upd H p o) := by
  have k : ∀ a u, H a = some u → (upd H p o) a = some u := fun a u q => by rw [upd_ne (ne_of_none q h)]; exact q
  refine ⟨⟨[], by simp [Mp.hide], by simp⟩, fun a ha => ?_, fun a u q _ => k a u q, fun a xs q => k a _ q, fun a u x q => k a _ q, fun a c q => k a _ q⟩
  rcases List.mem_cons.mp ha with e | e
  · exact .inr (by rw [e]; exact h)
  · exact .inl e
theorem Sim.hide {S : Sto} (s : Sim K m S H) {p : Addr} {o : HO} (h : H p = none) : Sim K (m.hide p) S (upd H p o) :=
  s.same rfl (Tr.hide h) (fun a ha => upd_ne (fun z => s.fresh h (z ▸ ha))) (fun a ha => by
    rcases List.mem_cons.mp ha with e | e
    · subst e; exact ⟨_, upd_same⟩
    · obtain ⟨u, q⟩ := s.hid a e
      exact (Ext.new (m := m) h).trk a u q) fun a ha hm => by
    rcases List.mem_cons.mp hm with e | e
    · exact s.fresh h (by rw [← e]; exact ha)
    · exact s.dis a ha e
end
/-! ### results -/
inductive Res (α : Type) where
  | ok (a : α) (S : Sto) | exc (c : Str) (fs : List (Str × D)) (S : Sto) | stuck
def Res.bind {α β : Type} (r : Res α) (k : α → Sto → Res β) : Res β := match r with
  | .ok a S => k a S
  | .exc c fs S => .exc c fs S
  | .stuck => .stuck
inductive SRes where
  | next (en : En) (S : Sto) | ret (d : D) (S : Sto) | brk (en : En) (S : Sto) | cnt (en : En) (S : Sto) | exc (c : Str) (fs : List (Str × D)) (en : En) (S : Sto) | stuck

abbrev EM := En → Sto → Res D
abbrev BM := En → Sto → Res Bool
abbrev AM := En → Sto → Res (List D)
abbrev SM := En → Sto → SRes
abbrev GM := D → En → Sto → Res En

section
variable (K : PySem.W.Frag)
structure EnvR (m : Mp) (H : Hp) (σ : St) (en : En) : Prop where
  len : σ.length = en.length
  at_ : ∀ (i : Nat) (d : D), en[i]? = some (some d) → ∃ v, σ[i]? = some (some v) ∧ Rep K m H v d
variable (W : WX)
def PostG {α : Type} {β : Type} (R : Mp → Hp → β → α → Prop) (σ : St) (m : Mp) (H : Hp) (r : Res α) (Q : β → Hp → Prop) : Prop := match r with
  | .ok d S' => ∀ v m' H', Ext m H m' H' → Sim K m' S' H' → R m' H' v d → Q v H'
  | .exc c fs S' => ∀ od m' H', Ext m H m' H' → Sim K m' S' H' → ExR K m' H' od fs → W (.ref (He.ga K c)) od σ H'
  | .stuck => False
abbrev Post (σ : St) (m : Mp) (H : Hp) (r : Res D) (Q : VK) : Prop := PostG K W (Rep K) σ m H r Q
abbrev PostL (σ : St) (m : Mp) (H : Hp) (r : Res (List D)) (Q : List V → Hp → Prop) : Prop := PostG K W (Reps K) σ m H r Q
abbrev PostB (σ : St) (m : Mp) (H : Hp) (r : Res Bool) (Q : Bool → Hp → Prop) : Prop := PostG K W (fun _ _ (b : Bool) c => b = c) σ m H r Q
abbrev PostE (σ : St) (m : Mp) (H : Hp) (r : Res En) (Q : St → Hp → Prop) : Prop := PostG K W (EnvR K) σ m H r Q
def SPost (m : Mp) (H : Hp) (r : SRes) (E : Ends) : Prop := match r with
  | .next en S' => ∀ σ' m' H', Ext m H m' H' → Sim K m' S' H' → EnvR K m' H' σ' en → E.nx σ' H'
  | .brk en S' => ∀ σ' m' H', Ext m H m' H' → Sim K m' S' H' → EnvR K m' H' σ' en → E.bk σ' H'
  | .cnt en S' => ∀ σ' m' H', Ext m H m' H' → Sim K m' S' H' → EnvR K m' H' σ' en → E.ct σ' H'
  | .ret d S' => ∀ v m' H', Ext m H m' H' → Sim K m' S' H' → Rep K m' H' v d → E.rt v H'
  | .exc c fs en S' => ∀ σ' od m' H', Ext m H m' H' → Sim K m' S' H' → EnvR K m' H' σ' en → ExR K m' H' od fs → W (.ref (He.ga K c)) od σ' H'
  | .stuck => False

def tE (e : EM) : TE := fun σ H Q => ∃ en S m, EnvR K m H σ en ∧ Sim K m S H ∧ Post K W σ m H (e en S) Q
def tT (e : BM) : TT := fun σ H Q => ∃ en S m, EnvR K m H σ en ∧ Sim K m S H ∧ PostB K W σ m H (e en S) Q
def tA (e : AM) : TA := fun σ H Q => ∃ en S m, EnvR K m H σ en ∧ Sim K m S H ∧ PostL K W σ m H (e en S) Q
def tS (e : SM) : TS := fun E σ H => ∃ en S m, EnvR K m H σ en ∧ Sim K m S H ∧ SPost K W m H (e en S) E
def tG (g : GM) : TG := fun v σ H Q => ∃ d en S m, EnvR K m H σ en ∧ Sim K m S H ∧ Rep K m H v d ∧ PostE K W σ m H (g d en S) Q
end

section
variable {K : PySem.W.Frag} {W : WX} {m m' : Mp} {H H' : Hp} {σ : St}
theorem EnvR.tr (e : Tr m H m' H') {en : En} (h : EnvR K m H σ en) : EnvR K m' H' σ en :=
  ⟨h.len, fun i d q => by
    obtain ⟨v, h1, h2⟩ := h.at_ i d q
    exact ⟨v, h1, h2.tr e⟩⟩
theorem EnvR.to (e : Ext m H m' H') {en : En} (h : EnvR K m H σ en) : EnvR K m' H' σ en := h.tr e.tr
theorem PostG.to {α β : Type} {R : Mp → Hp → β → α → Prop} {r : Res α} {Q : β → Hp → Prop} (h : PostG K W R σ m H r Q) (e : Ext m H m' H') : PostG K W R σ m' H' r Q := by
  cases r with
  | ok d S => exact fun v m2 H2 e2 => h v m2 H2 (e.trans e2)
  | exc c fs S => exact fun v m2 H2 e2 => h v m2 H2 (e.trans e2)
  | stuck => exact h
theorem SPost.to {r : SRes} {E : Ends} (h : SPost K W m H r E) (e : Ext m H m' H') : SPost K W m' H' r E := by
  cases r with
  | next en S => exact fun v m2 H2 e2 => h v m2 H2 (e.trans e2)
  | brk en S => exact fun v m2 H2 e2 => h v m2 H2 (e.trans e2)
  | cnt en S => exact fun v m2 H2 e2 => h v m2 H2 (e.trans e2)
  | ret d S => exact fun v m2 H2 e2 => h v m2 H2 (e.trans e2)
  | exc c fs en S => exact fun v od m2 H2 e2 => h v od m2 H2 (e.trans e2)
  | stuck => exact h
/-- one thing, then another -/
theorem PostG.bind {α β α' β' : Type} {R : Mp → Hp → β → α → Prop} {R' : Mp → Hp → β' → α' → Prop} {r : Res α} {k : α → Sto → Res α'} {Q : β' → Hp → Prop} (h : PostG K W R' σ m H (r.bind k) Q) :
    PostG K W R σ m H r (fun v H1 => ∃ d S1 m1, Ext m H m1 H1 ∧ Sim K m1 S1 H1 ∧ R m1 H1 v d ∧ PostG K W R' σ m1 H1 (k d S1) Q) := by
  cases r with
  | ok d S => exact fun v m1 H1 e s r1 => ⟨d, S, m1, e, s, r1, h.to e⟩
  | exc c fs S => exact h
  | stuck => exact h
theorem PostG.mono {α β : Type} {R : Mp → Hp → β → α → Prop} {r : Res α} {Q Q' : β → Hp → Prop} (h : PostG K W R σ m H r Q) (hq : ∀ v H1, Q v H1 → Q' v H1) : PostG K W R σ m H r Q' := by
  cases r with
  | ok d S => exact fun v m1 H1 e s r1 => hq _ _ (h v m1 H1 e s r1)
  | exc c fs S => exact h
  | stuck => exact h
end
end Ag

namespace Ag
open PySem L2
section
variable {X : Cx} {W : WX} {e a b c o : Expr} {es : List Expr} {pos p apos : Pos} {ma mb mc : EM}
theorem PE.imp {t t' : TE} (h : PE X e t) (f : ∀ σ H Q, t' σ H Q → t σ H Q) : PE X e t' := ⟨fun pins s σ H Q I hw => h.run pins s σ H Q I (f _ _ _ hw)⟩
theorem PT.imp {t t' : TT} (h : PT X e t) (f : ∀ σ H Q, t' σ H Q → t σ H Q) : PT X e t' := ⟨fun pins s σ H Q I hw => h.run pins s σ H Q I (f _ _ _ hw)⟩
theorem PW.imp {t t' : TT} (h : PW X e t) (f : ∀ σ H Q, t' σ H Q → t σ H Q) : PW X e t' := ⟨fun wh pins s σ H Q I hw => h.run wh pins s σ H Q I (f _ _ _ hw)⟩
theorem PA.imp {t t' : TA} (h : PA X es t) (f : ∀ σ H Q, t' σ H Q → t σ H Q) : PA X es t' := ⟨fun ps pins s σ H Q I hw => h.run ps pins s σ H Q I (f _ _ _ hw)⟩
theorem PS.imp {st : Stmt} {t t' : TS} (h : PS X st t) (f : ∀ E σ H, t' E σ H → t E σ H) : PS X st t' := ⟨fun pins s σ H E I hw => h.run pins s σ H E I (f _ _ _ hw)⟩
theorem PSs.imp {st : List Stmt} {t t' : TS} (h : PSs X st t) (f : ∀ E σ H, t' E σ H → t E σ H) : PSs X st t' := ⟨fun pins s σ H E I hw => h.run pins s σ H E I (f _ _ _ hw)⟩
theorem PG.imp {t t' : TG} (h : PG X e t) (f : ∀ v σ H Q, t' v σ H Q → t v σ H Q) : PG X e t' := ⟨fun pins s σ H v u Q I r hw => h.run pins s σ H v u Q I r (f _ _ _ _ hw)⟩

def ofO {α : Type} (o : Option α) (S : Sto) : Res α := match o with
  | some r => .ok r S
  | none => .stuck
/-- names and constants -/
def mVar (i : Nat) : EM := fun en S => ofO (match en[i]? with | some (some d) => some d | _ => none) S
def mC (d : D) : EM := fun _ S => .ok d S
theorem e_var {i : Nat} {x : Str} (hN : X.N[i]? = some x) (hv : Vis X.env.scope x) (hd : (x == ("__debug__" : Str)) = false := by decide) (hcd : (x == ("__classdict__" : Str)) = false := by decide) : PE X (.Name x pos) (tE X.K W (mVar i)) := by
  refine PE.imp (pe_var hN hv hd hcd) ?_
  rintro σ H Q ⟨en, S, m, er, si, h⟩
  unfold mVar ofO at h
  cases q : en[i]? with
  | none => rw [q] at h; exact h.elim
  | some od =>
    cases od with
    | none => rw [q] at h; exact h.elim
    | some d =>
      rw [q] at h
      obtain ⟨v, h1, h2⟩ := er.at_ i d q
      exact ⟨v, h1, h v m H .refl si h2⟩
theorem e_c {v : V} {d : D} (h : PE X e (tC v)) (r : ∀ m H, Rep X.K m H v d) : PE X e (tE X.K W (mC d)) :=
  PE.imp h fun σ H Q ⟨en, S, m, er, si, k⟩ => k v m H .refl si (r m H)

/-- two values by a rule -/
def rO2 (K : PySem.W.Frag) (f : D → D → Sto → Option D) : R2 := fun x y H Q => ∃ d e S m r, Sim K m S H ∧ Rep K m H x d ∧ Rep K m H y e ∧ f d e S = some r ∧ ∀ v H', Ext m H m H' → Sim K m S H' → Rep K m H' v r → Q v H'
def rO1 (K : PySem.W.Frag) (f : D → Sto → Option D) : V → Hp → VK → Prop := fun x H Q => ∃ d S m r, Sim K m S H ∧ Rep K m H x d ∧ f d S = some r ∧ ∀ v H', Ext m H m H' → Sim K m S H' → Rep K m H' v r → Q v H'
def rOL (K : PySem.W.Frag) (f : List D → Sto → Option D) : List V → Hp → VK → Prop := fun xs H Q => ∃ ds S m r, Sim K m S H ∧ Reps K m H xs ds ∧ f ds S = some r ∧ ∀ v H', Ext m H m H' → Sim K m S H' → Rep K m H' v r → Q v H'
def mOp (f : D → D → Sto → Option D) (ma mb : EM) : EM := fun en S => (ma en S).bind fun d S1 => (mb en S1).bind fun e S2 => ofO (f d e S2) S2
def mUn (f : D → Sto → Option D) (ma : EM) : EM := fun en S => (ma en S).bind fun d S1 => ofO (f d S1) S1
theorem op_to {f : D → D → Sto → Option D} {σ : L2.St} {H : Hp} {Q : VK} (h : tE X.K W (mOp f ma mb) σ H Q) : tOp (rO2 X.K f) (tE X.K W ma) (tE X.K W mb) σ H Q := by
  obtain ⟨en, S, m, er, si, h⟩ := h
  refine ⟨en, S, m, er, si, h.bind.mono ?_⟩
  rintro v H1 ⟨d, S1, m1, e1, s1, r1, h1⟩
  refine ⟨en, S1, m1, er.to e1, s1, h1.bind.mono ?_⟩
  rintro w H2 ⟨c, S2, m2, e2, s2, r2, h2⟩
  cases q : f d c S2 with
  | none => rw [q] at h2; exact h2.elim
  | some r =>
    rw [q] at h2
    exact ⟨d, c, S2, m2, r, s2, r1.to e2, r2, q, fun z H3 e3 s3 r3 => h2 z m2 H3 e3 s3 r3⟩
theorem e_op {op : Operator} {f : D → D → Sto → Option D} (ho : OpR X (binaryOp op) (rO2 X.K f)) (ha : PE X a (tE X.K W ma)) (hb : PE X b (tE X.K W mb)) : PE X (.BinOp a op b pos) (tE X.K W (mOp f ma mb)) :=
  PE.imp (pe_op ho ha hb) fun _ _ _ => op_to
theorem e_cmp {op : CmpOp} {f : D → D → Sto → Option D} (ho : OpR X (compareOp op) (rO2 X.K f)) (ha : PE X a (tE X.K W ma)) (hb : PE X b (tE X.K W mb)) (hm : behindInMarks op b = false) : PE X (.Compare a [op] [b] pos) (tE X.K W (mOp f ma mb)) :=
  PE.imp (pe_cmpR ho ha hb hm) fun _ _ _ => op_to
theorem e_un {op : UnaryOp} {f : D → Sto → Option D} (ho : UnR X (unaryOp op) (rO1 X.K f)) (ha : PE X a (tE X.K W ma)) : PE X (.UnaryOp op a pos) (tE X.K W (mUn f ma)) := by
  refine PE.imp (pe_un ho ha) ?_
  rintro σ H Q ⟨en, S, m, er, si, h⟩
  refine ⟨en, S, m, er, si, h.bind.mono ?_⟩
  rintro v H1 ⟨d, S1, m1, e1, s1, r1, h1⟩
  cases q : f d S1 with
  | none => rw [q] at h1; exact h1.elim
  | some r =>
    rw [q] at h1
    exact ⟨d, S1, m1, r, s1, r1, q, fun z H3 e3 s3 r3 => h1 z m1 H3 e3 s3 r3⟩
theorem e_ix {f : D → D → Sto → Option D} (ho : IxR X (rO2 X.K f)) (ha : PE X a (tE X.K W ma)) (hb : PE X b (tE X.K W mb)) (hs : PlainIx b) : PE X (.Subscript a b pos) (tE X.K W (mOp f ma mb)) :=
  PE.imp (pe_ix ho ha hb hs) fun _ _ _ => op_to

/-! tests -/
def bOf : D → Option Bool
  | .bl b => some b
  | _ => none
def mB (ma : EM) : BM := fun en S => (ma en S).bind fun d S1 => ofO (bOf d) S1
theorem b_to {σ : L2.St} {H : Hp} {Q : Bool → Hp → Prop} (h : tT X.K W (mB ma) σ H Q) : tE X.K W ma σ H fun x H1 => ∃ c, x = .bl c ∧ Q c H1 := by
  obtain ⟨en, S, m, er, si, h⟩ := h
  refine ⟨en, S, m, er, si, h.bind.mono ?_⟩
  rintro v H1 ⟨d, S1, m1, e1, s1, r1, h1⟩
  cases r1 with
  | bl b => exact ⟨b, rfl, h1 b m1 H1 .refl s1 rfl⟩
  | _ => exact h1.elim
theorem t_val (ha : PE X a (tE X.K W ma)) (he : ∀ whole, isTrue a X.env whole = (do let v ← whole; standAt a.pos; holding [v] (truthy v)) := by intro _; rfl) : PT X a (tT X.K W (mB ma)) :=
  PT.imp (pt_val ha he) fun _ _ _ => b_to
theorem t_cmp {op : CmpOp} {f : D → D → Sto → Option D} (ho : OpR X (compareOp op) (rO2 X.K f)) (ha : PE X a (tE X.K W ma)) (hb : PE X b (tE X.K W mb)) (hm : behindInMarks op b = false) : PT X (.Compare a [op] [b] pos) (tT X.K W (mB (mOp f ma mb))) :=
  PT.imp (pt_cmpR ho ha hb hm) fun _ _ _ h => op_to (b_to h)
def mAndB (t u : BM) : BM := fun en S => (t en S).bind fun c S1 => if c = true then u en S1 else .ok false S1
def mOrB (t u : BM) : BM := fun en S => (t en S).bind fun c S1 => if c = true then .ok true S1 else u en S1
def mNotB (t : BM) : BM := fun en S => (t en S).bind fun c S1 => .ok (!c) S1
variable {ta tb : BM} {rest : List Expr}
theorem w_and1 (ha : PT X a (tT X.K W ta)) : PW X (.BoolOp .And [a] pos) (tT X.K W ta) := pw_and1 ha
theorem w_or1 (ha : PT X a (tT X.K W ta)) : PW X (.BoolOp .Or [a] pos) (tT X.K W ta) := pw_or1 ha
theorem w_and (ha : PT X a (tT X.K W ta)) (hb : PW X (.BoolOp .And (b :: rest) pos) (tT X.K W tb)) : PW X (.BoolOp .And (a :: b :: rest) pos) (tT X.K W (mAndB ta tb)) := by
  refine PW.imp (pw_and ha hb) ?_
  rintro σ H Q ⟨en, S, m, er, si, h⟩
  refine ⟨en, S, m, er, si, h.bind.mono ?_⟩
  rintro v H1 ⟨d, S1, m1, e1, s1, rfl, h1⟩
  cases v with
  | true => exact ⟨en, S1, m1, er.to e1, s1, h1⟩
  | false => exact h1 false m1 H1 .refl s1 rfl
theorem w_or (ha : PT X a (tT X.K W ta)) (hb : PW X (.BoolOp .Or (b :: rest) pos) (tT X.K W tb)) : PW X (.BoolOp .Or (a :: b :: rest) pos) (tT X.K W (mOrB ta tb)) := by
  refine PW.imp (pw_or ha hb) ?_
  rintro σ H Q ⟨en, S, m, er, si, h⟩
  refine ⟨en, S, m, er, si, h.bind.mono ?_⟩
  rintro v H1 ⟨d, S1, m1, e1, s1, rfl, h1⟩
  cases v with
  | false => exact ⟨en, S1, m1, er.to e1, s1, h1⟩
  | true => exact h1 true m1 H1 .refl s1 rfl
theorem t_not (ha : PT X a (tT X.K W ta)) : PT X (.UnaryOp .Not a pos) (tT X.K W (mNotB ta)) := by
  refine PT.imp (pt_not ha) ?_
  rintro σ H Q ⟨en, S, m, er, si, h⟩
  refine ⟨en, S, m, er, si, h.bind.mono ?_⟩
  rintro v H1 ⟨d, S1, m1, e1, s1, rfl, h1⟩
  exact h1 (!v) m1 H1 .refl s1 rfl
/-- as values, by bools -/
def mAndV (ma mb : EM) : EM := fun en S => (ma en S).bind fun d S1 => match bOf d with | some true => mb en S1 | some false => .ok (.bl false) S1 | none => .stuck
def mOrV (ma mb : EM) : EM := fun en S => (ma en S).bind fun d S1 => match bOf d with | some false => mb en S1 | some true => .ok (.bl true) S1 | none => .stuck
def mNotV (ma : EM) : EM := mUn (fun d _ => (bOf d).map fun b => .bl (!b)) ma
theorem e_one {op : BoolOp} (h : PE X a (tE X.K W ma)) : PE X (.BoolOp op [a] pos) (tE X.K W ma) := pe_one h
theorem e_and (ha : PE X a (tE X.K W ma)) (hb : PE X (.BoolOp .And (b :: rest) pos) (tE X.K W mb)) : PE X (.BoolOp .And (a :: b :: rest) pos) (tE X.K W (mAndV ma mb)) := by
  refine PE.imp (pe_and ha hb) ?_
  rintro σ H Q ⟨en, S, m, er, si, h⟩
  refine ⟨en, S, m, er, si, h.bind.mono ?_⟩
  rintro v H1 ⟨d, S1, m1, e1, s1, r1, h1⟩
  cases r1 with
  | bl b =>
    cases b with
    | true => exact ⟨true, rfl, en, S1, m1, er.to e1, s1, h1⟩
    | false => exact ⟨false, rfl, h1 _ m1 H1 .refl s1 (.bl false)⟩
  | _ => exact h1.elim
theorem e_or (ha : PE X a (tE X.K W ma)) (hb : PE X (.BoolOp .Or (b :: rest) pos) (tE X.K W mb)) : PE X (.BoolOp .Or (a :: b :: rest) pos) (tE X.K W (mOrV ma mb)) := by
  refine PE.imp (pe_or ha hb) ?_
  rintro σ H Q ⟨en, S, m, er, si, h⟩
  refine ⟨en, S, m, er, si, h.bind.mono ?_⟩
  rintro v H1 ⟨d, S1, m1, e1, s1, r1, h1⟩
  cases r1 with
  | bl b =>
    cases b with
    | false => exact ⟨false, rfl, en, S1, m1, er.to e1, s1, h1⟩
    | true => exact ⟨true, rfl, h1 _ m1 H1 .refl s1 (.bl true)⟩
  | _ => exact h1.elim
theorem e_not (ha : PE X a (tE X.K W ma)) : PE X (.UnaryOp .Not a pos) (tE X.K W (mNotV ma)) := by
  refine PE.imp (pe_not ha) ?_
  rintro σ H Q ⟨en, S, m, er, si, h⟩
  refine ⟨en, S, m, er, si, h.bind.mono ?_⟩
  rintro v H1 ⟨d, S1, m1, e1, s1, r1, h1⟩
  cases r1 with
  | bl b => exact ⟨b, rfl, h1 _ m1 H1 .refl s1 (.bl _)⟩
  | _ => exact h1.elim
def mIf (t : BM) (ma mb : EM) : EM := fun en S => (t en S).bind fun c S1 => if c = true then ma en S1 else mb en S1
theorem e_if (hc : PT X c (tT X.K W ta)) (ha : PE X a (tE X.K W ma)) (hb : PE X b (tE X.K W mb)) : PE X (.IfExp c a b pos) (tE X.K W (mIf ta ma mb)) := by
  refine PE.imp (pe_ifExp hc ha hb) ?_
  rintro σ H Q ⟨en, S, m, er, si, h⟩
  refine ⟨en, S, m, er, si, h.bind.mono ?_⟩
  rintro v H1 ⟨d, S1, m1, e1, s1, rfl, h1⟩
  cases v with
  | true => exact ⟨en, S1, m1, er.to e1, s1, h1⟩
  | false => exact ⟨en, S1, m1, er.to e1, s1, h1⟩
/-- a chain of two -/
def mChain (f g : D → D → Sto → Option D) (ma mb mc : EM) : EM := fun en S => (ma en S).bind fun d S1 => (mb en S1).bind fun e S2 => match (f d e S2).bind bOf with
  | some true => (mc en S2).bind fun h S3 => ofO (g e h S3) S3
  | some false => .ok (.bl false) S2
  | none => .stuck
theorem chain_to {f g : D → D → Sto → Option D} {σ : L2.St} {H : Hp} {Q : VK} (h : tE X.K W (mChain f g ma mb mc) σ H Q) : tChain (rO2 X.K f) (rO2 X.K g) (tE X.K W ma) (tE X.K W mb) (tE X.K W mc) σ H Q := by
  obtain ⟨en, S, m, er, si, h⟩ := h
  refine ⟨en, S, m, er, si, h.bind.mono ?_⟩
  rintro v H1 ⟨d, S1, m1, e1, s1, r1, h1⟩
  refine ⟨en, S1, m1, er.to e1, s1, h1.bind.mono ?_⟩
  rintro w H2 ⟨c, S2, m2, e2, s2, r2, h2⟩
  cases q : f d c S2 with
  | none => rw [q] at h2; exact h2.elim
  | some r =>
    rw [q] at h2
    refine ⟨d, c, S2, m2, r, s2, r1.to e2, r2, q, fun z H3 e3 s3 r3 => ?_⟩
    cases r3 with
    | bl k =>
      cases k with
      | false => exact ⟨false, rfl, h2 _ m2 H3 e3 s3 (.bl false)⟩
      | true =>
        refine ⟨true, rfl, en, S2, m2, ((er.to e1).to e2).to e3, s3, ?_⟩
        have h3 : Post X.K W σ m2 H2 ((mc en S2).bind fun h S3 => ofO (g c h S3) S3) Q := h2
        refine (h3.to e3).bind.mono ?_
        rintro u H4 ⟨x, S4, m4, e4, s4, r4, h4⟩
        cases q2 : g c x S4 with
        | none => rw [q2] at h4; exact h4.elim
        | some r' =>
          rw [q2] at h4
          exact ⟨c, x, S4, m4, r', s4, (r2.to e3).to e4, r4, q2, fun z H5 e5 s5 r5 => h4 z m4 H5 e5 s5 r5⟩
    | _ => exact h2.elim
theorem e_chain {op op' : CmpOp} {f g : D → D → Sto → Option D} (ho : OpR X (compareOp op) (rO2 X.K f)) (ho' : OpR X (compareOp op') (rO2 X.K g)) (ha : PE X a (tE X.K W ma)) (hb : PE X b (tE X.K W mb)) (hc : PE X c (tE X.K W mc))
    (hm : lastMarks [op, op'] [b, c] = false := by with_unfolding_all rfl) : PE X (.Compare a [op, op'] [b, c] pos) (tE X.K W (mChain f g ma mb mc)) :=
  PE.imp (pe_chain ho ho' ha hb hc hm) fun _ _ _ => chain_to
theorem t_chain {op op' : CmpOp} {f g : D → D → Sto → Option D} (ho : OpR X (compareOp op) (rO2 X.K f)) (ho' : OpR X (compareOp op') (rO2 X.K g)) (ha : PE X a (tE X.K W ma)) (hb : PE X b (tE X.K W mb)) (hc : PE X c (tE X.K W mc))
    (hm : lastMarks [op, op'] [b, c] = false := by with_unfolding_all rfl) : PT X (.Compare a [op, op'] [b, c] pos) (tT X.K W (mB (mChain f g ma mb mc))) :=
  PT.imp (pt_chain ho ho' ha hb hc hm) fun _ _ _ h => chain_to (b_to h)

/-! argument lists, displays -/
def mNil : AM := fun _ S => .ok [] S
def mCons (ma : EM) (mr : AM) : AM := fun en S => (ma en S).bind fun d S1 => (mr en S1).bind fun ds S2 => .ok (d :: ds) S2
variable {mr : AM}
theorem a_nil : PA X [] (tA X.K W mNil) := PA.imp pa_nil fun σ H Q ⟨en, S, m, er, si, h⟩ => h [] m H .refl si .nil
theorem a_cons (ha : PE X a (tE X.K W ma)) (hr : PA X es (tA X.K W mr)) (hs : starEach (a :: es) X.env = (false, eval a X.env) :: starEach es X.env := by rfl) : PA X (a :: es) (tA X.K W (mCons ma mr)) := by
  refine PA.imp (pa_cons ha hr hs) ?_
  rintro σ H Q ⟨en, S, m, er, si, h⟩
  refine ⟨en, S, m, er, si, h.bind.mono ?_⟩
  rintro v H1 ⟨d, S1, m1, e1, s1, r1, h1⟩
  refine ⟨en, S1, m1, er.to e1, s1, h1.bind.mono ?_⟩
  rintro vs H2 ⟨ds, S2, m2, e2, s2, r2, h2⟩
  exact h2 (v :: vs) m2 H2 .refl s2 (.cons (r1.to e2) r2)
def lineN : Nat := 16777216
theorem line_eq : lineN = sizeLine := sizeLine_eq.symm
def mTup (mr : AM) : EM := fun en S => (mr en S).bind fun ds S1 => ofO (if ds.length ≤ lineN then some (.tup ds) else none) S1
def mLst (mr : AM) : EM := fun en S => (mr en S).bind fun ds S1 => ofO (if ds.length ≤ lineN then some (.lst ds) else none) S1
/-- a list that is to be changed: a cell -/
def mLstC (mr : AM) : EM := fun en S => (mr en S).bind fun ds S1 => if ds.length ≤ lineN then .ok (.ref S1.length) (S1 ++ [.lst ds]) else .stuck
/-- a tuple that was just laid has no dict -/
theorem newTup {pins : List (Addr × Obj)} {s : Shared} {σ : L2.St} {H : Hp} {Q : VK} {xs : List V} {its : List Value} (I : Inv X pins σ H s) (r : Vals xs its) (hz : xs.length ≤ sizeLine) (q : ∀ p o, H p = none → o.dict = none → Q (.ref p) (upd H p (.frz o (.tup xs)))) :
    EP X pins σ Q (.ref s.heap.objs.size) { s with heap := s.heap.push { cls := .type "tuple", data := .seq its.toArray } } :=
  ⟨.ref _, _, I.laid (t' := s.toks) (o := .frz _ (.tup xs)) (fun _ _ z => Heap.get?_push_of_some _ z) (Nat.le_refl _) ⟨Heap.get?_push_size _ rfl, hz, its, r, ⟨_, Heap.get?_push_size _ rfl, rfl, _, rfl⟩⟩, rfl, q _ _ (I.hok.fresh (Nat.le_refl _)) rfl⟩
theorem pe_tupF {k : Nat} {t : TA} (h : PA X es t) : PE X (.Tuple es k pos) (fun σ H Q => t σ H fun xs H1 => xs.length ≤ sizeLine ∧ ∀ p o, H1 p = none → o.dict = none → Q (.ref p) (upd H1 p (.frz o (.tup xs)))) :=
  ⟨fun pins s σ H Q I hq => wpAny_Tuple_spliced (thn (h.run pos pins s σ H _ I hq) fun us s1 ⟨_, _, J, r, z, q⟩ => ⟨r.length ▸ z, newTup J r z q⟩)⟩
theorem tupF {K : PySem.W.Frag} {m : Mp} {H : Hp} {q : Addr} {o : Obj} {xs : List V} {ds : List D} (ho : o.dict = none) (h : Reps K m (upd H q (.frz o (.tup xs))) xs ds) : Rep K m (upd H q (.frz o (.tup xs))) (.ref q) (.tup ds) := .tup (.inl (.inr ⟨o, upd_same⟩)) (fun _ => ⟨o, _, upd_same, ho⟩) h
theorem e_tup {k : Nat} (h : PA X es (tA X.K W mr)) : PE X (.Tuple es k pos) (tE X.K W (mTup mr)) := by
  refine PE.imp (pe_tupF h) ?_
  rintro σ H Q ⟨en, S, m, er, si, h⟩
  refine ⟨en, S, m, er, si, h.bind.mono ?_⟩
  rintro vs H1 ⟨ds, S1, m1, e1, s1, r1, h1⟩
  by_cases hl : ds.length ≤ lineN
  · rw [if_pos hl] at h1
    refine ⟨by rw [r1.len, ← line_eq]; exact hl, fun q o hq ho => h1 _ m1 _ (.new hq) (s1.new hq) (tupF ho (r1.to (.new hq)))⟩
  · rw [if_neg hl] at h1; exact h1.elim
theorem e_lst (h : PA X es (tA X.K W mr)) : PE X (.List es pos) (tE X.K W (mLst mr)) := by
  refine PE.imp (pe_lst h) ?_
  rintro σ H Q ⟨en, S, m, er, si, h⟩
  refine ⟨en, S, m, er, si, h.bind.mono ?_⟩
  rintro vs H1 ⟨ds, S1, m1, e1, s1, r1, h1⟩
  by_cases hl : ds.length ≤ lineN
  · rw [if_pos hl] at h1
    refine ⟨by rw [r1.len, ← line_eq]; exact hl, fun q hq => h1 _ m1 _ (.new hq) (s1.new hq) (.lst upd_same (s1.off hq) (r1.to (.new hq)))⟩
  · rw [if_neg hl] at h1; exact h1.elim
theorem e_lstC (h : PA X es (tA X.K W mr)) : PE X (.List es pos) (tE X.K W (mLstC mr)) := by
  refine PE.imp (pe_lst h) ?_
  rintro σ H Q ⟨en, S, m, er, si, h⟩
  refine ⟨en, S, m, er, si, h.bind.mono ?_⟩
  rintro vs H1 ⟨ds, S1, m1, e1, s1, r1, h1⟩
  by_cases hl : ds.length ≤ lineN
  · rw [if_pos hl] at h1
    refine ⟨by rw [r1.len, ← line_eq]; exact hl, fun q hq => h1 _ (m1.add q) _ (.cell hq) (s1.grow hq ⟨vs, upd_same, r1.to (.cell hq)⟩) (.ref (s1.last q))⟩
  · rw [if_neg hl] at h1; exact h1.elim

/-! built-in calls -/
def mCB (f : List D → Sto → Option D) (mr : AM) : EM := fun en S => (mr en S).bind fun ds S1 => ofO (f ds S1) S1
theorem cb_to {f : List D → Sto → Option D} {σ : L2.St} {H : Hp} {Q : VK} (h : tE X.K W (mCB f mr) σ H Q) : tCB (rOL X.K f) (tA X.K W mr) σ H Q := by
  obtain ⟨en, S, m, er, si, h⟩ := h
  refine ⟨en, S, m, er, si, h.bind.mono ?_⟩
  rintro vs H1 ⟨ds, S1, m1, e1, s1, r1, h1⟩
  cases q : f ds S1 with
  | none => rw [q] at h1; exact h1.elim
  | some r =>
    rw [q] at h1
    exact ⟨ds, S1, m1, r, s1, r1, q, fun z H3 e3 s3 r3 => h1 z m1 H3 e3 s3 r3⟩
theorem e_cb {x : Str} {id : String} {f : List D → Sto → Option D} (hc : CallR X (.builtin id) (rOL X.K f)) (hg : Gl X x) (hm : X.mg x = none) (hv : bootBuiltins x = some (.builtin id)) (ha : PA X (e :: es) (tA X.K W mr))
    (hn : x ≠ "__name__" := by decide) (hd : (x == ("__debug__" : Str)) = false := by decide) (hs : starEach (e :: es) X.env = (false, eval e X.env) :: starEach es X.env := by rfl) (hb : (backTo pos (starEach es X.env)).any (·.1) = false := by rfl) :
    PE X (.Call (.Name x p) (e :: es) [] pos) (tE X.K W (mCB f mr)) := PE.imp (pe_callB hc hg hm hv ha hn hd hs hb) fun _ _ _ => cb_to
theorem e_cty {x : Str} {T : String} {f : List D → Sto → Option D} (hc : CallR X (.type T) (rOL X.K f)) (hg : Gl X x) (hm : X.mg x = none) (hv : bootBuiltins x = some (.type T)) (ha : PA X (e :: es) (tA X.K W mr))
    (hn : x ≠ "__name__" := by decide) (hd : (x == ("__debug__" : Str)) = false := by decide) (hs : starEach (e :: es) X.env = (false, eval e X.env) :: starEach es X.env := by rfl) (hb : (backTo pos (starEach es X.env)).any (·.1) = false := by rfl) :
    PE X (.Call (.Name x p) (e :: es) [] pos) (tE X.K W (mCB f mr)) := PE.imp (pe_callTy hc hg hm hv ha hn hd hs hb) fun _ _ _ => cb_to
end

/-! ### statements -/
section
variable {X : Cx} {W : WX} {e a b c : Expr} {pos : Pos} {ma : EM} {st : Stmt} {rest sa sb : List Stmt} {s1 s2 : SM} {t : BM} {g : GM}
def eS (r : Res D) (en : En) (k : D → Sto → SRes) : SRes := match r with
  | .ok d S => k d S
  | .exc c fs S => .exc c fs en S
  | .stuck => .stuck
theorem eS_to {m : Mp} {H : Hp} {σ : L2.St} {r : Res D} {en : En} {k : D → Sto → SRes} {E : Ends} (er : EnvR X.K m H σ en) (h : SPost X.K W m H (eS r en k) E) :
    Post X.K W σ m H r (fun v H1 => ∃ d S1 m1, Ext m H m1 H1 ∧ Sim X.K m1 S1 H1 ∧ Rep X.K m1 H1 v d ∧ SPost X.K W m1 H1 (k d S1) E) := by
  cases r with
  | ok d S => exact fun v m1 H1 e s r1 => ⟨d, S, m1, e, s, r1, h.to e⟩
  | exc c fs S => exact fun od m1 H1 e s x => h σ od m1 H1 e s (er.to e) x
  | stuck => exact h
def sNil : SM := fun en S => .next en S
def sSeq (a b : SM) : SM := fun en S => match a en S with
  | .next en1 S1 => b en1 S1
  | r => r
theorem ss_nil : PSs X [] (tS X.K W sNil) := PSs.imp pss_nil fun E σ H ⟨en, S, m, er, si, h⟩ => h σ m H .refl si er
theorem ss_cons (h1 : PS X st (tS X.K W s1)) (h2 : PSs X rest (tS X.K W s2)) : PSs X (st :: rest) (tS X.K W (sSeq s1 s2)) := by
  refine PSs.imp (pss_cons h1 h2) ?_
  rintro E σ H ⟨en, S, m, er, si, h⟩
  refine ⟨en, S, m, er, si, ?_⟩
  unfold sSeq at h
  cases q : s1 en S with
  | next en1 S1 =>
    rw [q] at h
    exact fun σ' m' H' e s r => ⟨en1, S1, m', r, s, SPost.to h e⟩
  | ret d S1 => rw [q] at h; exact h
  | brk en1 S1 => rw [q] at h; exact h
  | cnt en1 S1 => rw [q] at h; exact h
  | exc c fs en1 S1 => rw [q] at h; exact h
  | stuck => rw [q] at h; exact h
theorem ss_one (h1 : PS X st (tS X.K W s1)) : PSs X [st] (tS X.K W s1) := pss_one h1
def sPass : SM := fun en S => .next en S
def sExpr (ma : EM) : SM := fun en S => eS (ma en S) en fun _ S1 => .next en S1
theorem s_expr (he : PE X e (tE X.K W ma)) (hs : swapsWith e none pos.line X.env = pure false := by rfl) : PS X (.Expr e pos) (tS X.K W (sExpr ma)) := by
  refine PS.imp (ps_expr he hs) ?_
  rintro E σ H ⟨en, S, m, er, si, h⟩
  refine ⟨en, S, m, er, si, (eS_to er h).mono ?_⟩
  rintro v H1 ⟨d, S1, m1, e1, s1, r1, h1⟩
  exact h1 σ m1 H1 .refl s1 (er.to e1)
def sRet (ma : EM) : SM := fun en S => eS (ma en S) en fun d S1 => .ret d S1
theorem s_ret (he : PE X e (tE X.K W ma)) : PS X (.Return (some e) pos) (tS X.K W (sRet ma)) := by
  refine PS.imp (ps_ret he) ?_
  rintro E σ H ⟨en, S, m, er, si, h⟩
  refine ⟨en, S, m, er, si, (eS_to er h).mono ?_⟩
  rintro v H1 ⟨d, S1, m1, e1, s1, r1, h1⟩
  exact h1 v m1 H1 .refl s1 r1
def bS (r : Res Bool) (en : En) (k : Bool → Sto → SRes) : SRes := match r with
  | .ok d S => k d S
  | .exc c fs S => .exc c fs en S
  | .stuck => .stuck
theorem bS_to {m : Mp} {H : Hp} {σ : L2.St} {r : Res Bool} {en : En} {k : Bool → Sto → SRes} {E : Ends} (er : EnvR X.K m H σ en) (h : SPost X.K W m H (bS r en k) E) :
    PostB X.K W σ m H r (fun v H1 => ∃ S1 m1, Ext m H m1 H1 ∧ Sim X.K m1 S1 H1 ∧ SPost X.K W m1 H1 (k v S1) E) := by
  cases r with
  | ok d S => exact fun v m1 H1 e s r1 => ⟨S, m1, e, s, by subst r1; exact h.to e⟩
  | exc c fs S => exact fun od m1 H1 e s x => h σ od m1 H1 e s (er.to e) x
  | stuck => exact h
def sIf (t : BM) (a b : SM) : SM := fun en S => bS (t en S) en fun c S1 => if c = true then a en S1 else b en S1
theorem s_if (hc : PT X c (tT X.K W t)) (ha : PSs X sa (tS X.K W s1)) (hb : PSs X sb (tS X.K W s2)) : PS X (.If c sa sb pos) (tS X.K W (sIf t s1 s2)) := by
  refine PS.imp (ps_if hc ha hb) ?_
  rintro E σ H ⟨en, S, m, er, si, h⟩
  refine ⟨en, S, m, er, si, (bS_to er h).mono ?_⟩
  rintro v H1 ⟨S1, m1, e1, s1, h1⟩
  cases v with
  | true => exact ⟨en, S1, m1, er.to e1, s1, h1⟩
  | false => exact ⟨en, S1, m1, er.to e1, s1, h1⟩

/-! targets, assignment -/
def gNm (i : Nat) : GM := fun d en S => .ok (en.set i (some d)) S
theorem EnvR.set {K : PySem.W.Frag} {m : Mp} {H : Hp} {σ : L2.St} {en : En} {i : Nat} {v : V} {d : D} (er : EnvR K m H σ en) (r : Rep K m H v d) : EnvR K m H (σ.set i (some v)) (en.set i (some d)) := by
  refine ⟨by simp [er.len], fun j c q => ?_⟩
  by_cases hj : i = j
  · subst hj
    have hl : i < en.length := by
      by_cases hl : i < en.length
      · exact hl
      · rw [List.getElem?_eq_none (by simpa using hl)] at q; cases q
    rw [List.getElem?_set_self hl] at q
    cases q
    exact ⟨v, by rw [List.getElem?_set_self (by rw [er.len]; exact hl)], r⟩
  · rw [List.getElem?_set_ne hj] at q
    obtain ⟨w, h1, h2⟩ := er.at_ j c q
    exact ⟨w, by rw [List.getElem?_set_ne hj]; exact h1, h2⟩
theorem g_name {i : Nat} {x : Str} (hN : X.N.Nodup) (hi : X.N[i]? = some x) (hx : Loc X.env.scope x) (hf : X.fn x = true ∨ X.env.scope.names.lookup x = some .local := by first | exact Or.inl rfl | exact Or.inr rfl) : PG X (.Name x pos) (tG X.K W (gNm i)) :=
  PG.imp (pg_name hN hi hx hf) fun v σ H Q ⟨d, en, S, m, er, si, r, h⟩ => h _ m H .refl si (er.set r)
def sAsg (ma : EM) (g : GM) : SM := fun en S => eS (ma en S) en fun d S1 => match g d en S1 with
  | .ok en' S2 => .next en' S2
  | .exc c fs S2 => .exc c fs en S2
  | .stuck => .stuck
theorem asg_to {E : Ends} {σ : L2.St} {H : Hp} (h : tS X.K W (sAsg ma g) E σ H) : tAsg (tE X.K W ma) (tG X.K W g) E σ H := by
  obtain ⟨en, S, m, er, si, h⟩ := h
  refine ⟨en, S, m, er, si, (eS_to er h).mono ?_⟩
  rintro v H1 ⟨d, S1, m1, e1, s1, r1, h1⟩
  refine ⟨d, en, S1, m1, er.to e1, s1, r1, ?_⟩
  cases q : g d en S1 with
  | ok en' S2 => rw [q] at h1; exact fun σ' m' H' e s r => h1 σ' m' H' e s r
  | exc c fs S2 => rw [q] at h1; exact fun od m' H' e s x => h1 σ od m' H' e s ((er.to e1).to e) x
  | stuck => rw [q] at h1; exact h1
theorem s_set {i : Nat} {x : Str} {pos' : Pos} (hN : X.N.Nodup) (hi : X.N[i]? = some x) (hx : Loc X.env.scope x) (he : PE X e (tE X.K W ma)) (hs : swapsWith e (some (.Name x pos')) pos.line X.env = pure false := by rfl)
    (hf : X.fn x = true ∨ X.env.scope.names.lookup x = some .local := by first | exact Or.inl rfl | exact Or.inr rfl) : PS X (.Assign [.Name x pos'] e pos) (tS X.K W (sAsg ma (gNm i))) := by
  refine PS.imp (ps_set hN hi hx he hs hf) ?_
  intro E σ H h
  refine (?_ : tAsg (tE X.K W ma) (gName i) E σ H)
  obtain ⟨en, S, m, er, si, h⟩ := h
  refine ⟨en, S, m, er, si, (eS_to er h).mono ?_⟩
  rintro v H1 ⟨d, S1, m1, e1, s1, r1, h1⟩
  exact h1 _ m1 H1 .refl s1 ((er.to e1).set r1)
theorem s_asg {tg : Expr} (he : PE X e (tE X.K W ma)) (hg : PG X tg (tG X.K W g)) (h1 : swapsWithSole [tg] e pos.line X.env = pure false := by rfl) (h2 : swappedStores [tg] e X.env = pure none := by rfl) (h3 : (assignEach [tg] X.env).map (·.2) = [assign tg X.env] := by rfl) :
    PS X (.Assign [tg] e pos) (tS X.K W (sAsg ma g)) := PS.imp (ps_asg he hg h1 h2 h3) fun _ _ _ => asg_to
end
end Ag

namespace Ag
open PySem L2
/-! ### iterables -/
abbrev Nxt := Nat → Sto → Option (Option D)
structure ItD where
  nxt : Nxt
  n : Nat
abbrev IM := En → Sto → Res ItD
def WalkD (K : PySem.W.Frag) (m : Mp) (H : Hp) (J : L2.It) (nxt : Nxt) : Prop := ∀ m' S' H', Tr m H m' H' → Sim K m' S' H' → ∀ k, match nxt k S' with
  | none => True
  | some none => J.stop k H'
  | some (some d) => J.go k H' ∧ ∀ x H'', J.yld k H' x H'' → Ext m' H' m' H'' ∧ Sim K m' S' H'' ∧ Rep K m' H'' x d
def tI (K : PySem.W.Frag) (W : WX) (mi : IM) : TI := fun σ H R => ∃ en S m, EnvR K m H σ en ∧ Sim K m S H ∧ PostG K W (fun m' H' (J : L2.It) (it : ItD) => WalkD K m' H' J it.nxt) σ m H (mi en S) R
theorem PI.imp {X : Cx} {tg it : Expr} {t t' : TI} (h : PI X tg it t) (f : ∀ σ H Q, t' σ H Q → t σ H Q) : PI X tg it t' := ⟨fun pins s σ H R I hw => h.run pins s σ H R I (f _ _ _ hw)⟩

/-! ### for -/
def forM (nxt : Nxt) (g : GM) (b : SM) : Nat → Nat → En → Sto → SRes
  | 0, k, en, S => match nxt k S with
    | some none => .next en S
    | _ => .stuck
  | f + 1, k, en, S => match nxt k S with
    | none => .stuck
    | some none => .next en S
    | some (some d) => match g d en S with
      | .ok en1 S1 => (match b en1 S1 with
        | .next en2 S2 => forM nxt g b f (k + 1) en2 S2
        | .cnt en2 S2 => forM nxt g b f (k + 1) en2 S2
        | .brk en2 S2 => .next en2 S2
        | .ret d S2 => .ret d S2
        | .exc c fs en2 S2 => .exc c fs en2 S2
        | .stuck => .stuck)
      | .exc c fs S1 => .exc c fs en S1
      | .stuck => .stuck
def sFor (mi : IM) (g : GM) (b : SM) : SM := fun en S => match mi en S with
  | .ok it S1 => forM it.nxt g b it.n 0 en S1
  | .exc c fs S1 => .exc c fs en S1
  | .stuck => .stuck
section
variable {X : Cx} {W : WX} {tg iter c : Expr} {body : List Stmt} {pos : Pos} {mi : IM} {g : GM} {b : SM} {t : BM}
theorem s_for (hp : PassesOwn (model X.prog X.w) X.A X.env X.xe) (hc : X.calm = true) (hi : PI X tg iter (tI X.K W mi)) (hg : PG X tg (tG X.K W g)) (hb : PSs X body (tS X.K W b))
    (hs : ∀ x, foldedSetIterable iter X.env x = pure x := by intro _; rfl) : PS X (.For tg iter body [] pos) (tS X.K W (sFor mi g b)) := by
  refine PS.imp (ps_for hp hc hi hg hb hs) ?_
  rintro E σ H ⟨en, S, m, er, si, h⟩
  refine ⟨en, S, m, er, si, ?_⟩
  unfold sFor at h
  cases q : mi en S with
  | stuck => rw [q] at h; exact h
  | exc c fs S1 => rw [q] at h; exact fun od m1 H1 e s x => h σ od m1 H1 e s (er.to e) x
  | ok it S1 =>
    rw [q] at h
    intro J m1 H1 e1 s1 wk
    refine ⟨fun i f σ2 H2 => ∃ en2 S2 m2, Ext m1 H1 m2 H2 ∧ EnvR X.K m2 H2 σ2 en2 ∧ Sim X.K m2 S2 H2 ∧ SPost X.K W m2 H2 (forM it.nxt g b f i en2 S2) E, ⟨it.n, en, S1, m1, .refl, er.to e1, s1, SPost.to h e1⟩, ?_⟩
    rintro i f σ2 H2 ⟨en2, S2, m2, e2, er2, s2, h2⟩
    have wk2 := wk m2 S2 H2 e2.tr s2 i
    cases qn : it.nxt i S2 with
    | none => cases f <;> (simp only [forM, qn] at h2; exact h2.elim)
    | some od =>
      rw [qn] at wk2
      cases od with
      | none =>
        have h3 : SPost X.K W m2 H2 (.next en2 S2) E := by cases f <;> simpa only [forM, qn] using h2
        exact .inl ⟨wk2, h3 σ2 m2 H2 .refl s2 er2⟩
      | some d =>
        cases f with
        | zero => simp only [forM, qn] at h2; exact h2.elim
        | succ f =>
          refine .inr ⟨wk2.1, fun σ' H' => ∃ en2 S2 m2, Ext m1 H1 m2 H' ∧ EnvR X.K m2 H' σ' en2 ∧ Sim X.K m2 S2 H' ∧ SPost X.K W m2 H' (forM it.nxt g b f (i + 1) en2 S2) E, fun σ' H' z => ⟨f, Nat.lt_succ_self f, z⟩, ?_⟩
          intro x H3 y
          obtain ⟨e3, s3, r3⟩ := wk2.2 x H3 y
          refine ⟨d, en2, S2, m2, er2.to e3, s3, r3, ?_⟩
          have h4 := SPost.to h2 e3
          simp only [forM, qn] at h4
          cases qg : g d en2 S2 with
          | stuck => rw [qg] at h4; exact h4
          | exc c fs S4 => rw [qg] at h4; exact fun od m' H' e s z => h4 σ2 od m' H' e s ((er2.to e3).to e) z
          | ok en4 S4 =>
            rw [qg] at h4
            intro σ4 m4 H4 e4 s4 r4
            refine ⟨en4, S4, m4, r4, s4, ?_⟩
            have h5 := SPost.to h4 e4
            have eb : Ext m1 H1 m4 H4 := (e2.trans e3).trans e4
            cases qb : b en4 S4 with
            | next en5 S5 => simp only [qb] at h5; exact fun σ' m' H' e s r => ⟨en5, S5, m', eb.trans e, r, s, SPost.to h5 e⟩
            | cnt en5 S5 => simp only [qb] at h5; exact fun σ' m' H' e s r => ⟨en5, S5, m', eb.trans e, r, s, SPost.to h5 e⟩
            | brk en5 S5 => simp only [qb] at h5; exact h5
            | ret d5 S5 => simp only [qb] at h5; exact h5
            | exc c fs en5 S5 => simp only [qb] at h5; exact h5
            | stuck => simp only [qb] at h5; exact h5

/-! ### while -/
def whF (t : BM) (b : SM) : Nat → En → Sto → SRes
  | 0, _, _ => .stuck
  | n + 1, en, S => bS (t en S) en fun c S1 => if c = true then (match b en S1 with
      | .next en2 S2 => whF t b n en2 S2
      | .cnt en2 S2 => whF t b n en2 S2
      | .brk en2 S2 => .next en2 S2
      | .ret d S2 => .ret d S2
      | .exc c fs en2 S2 => .exc c fs en2 S2
      | .stuck => .stuck) else .next en S1
open Classical in
noncomputable def sWh (t : BM) (b : SM) : SM := fun en S => if h : ∃ n, whF t b n en S ≠ .stuck then whF t b (Classical.choose h) en S else .stuck
theorem whF_mono {t : BM} {b : SM} : ∀ (n : Nat) (en : En) (S : Sto), whF t b n en S ≠ .stuck → whF t b (n + 1) en S = whF t b n en S
  | 0, en, S, h => absurd rfl h
  | n + 1, en, S, h => by
    unfold whF at h ⊢
    cases q : t en S with
    | stuck => simp only [q, bS] at h ⊢
    | exc c fs S1 => simp only [q, bS] at h ⊢
    | ok c S1 =>
      simp only [q, bS] at h ⊢
      cases c with
      | false => rfl
      | true =>
        simp only [if_true] at h ⊢
        cases qb : b en S1 with
        | next en2 S2 => simp only [qb] at h ⊢; exact whF_mono n en2 S2 h
        | cnt en2 S2 => simp only [qb] at h ⊢; exact whF_mono n en2 S2 h
        | _ => simp only [qb]
theorem whF_le {t : BM} {b : SM} {n k : Nat} {en : En} {S : Sto} (hk : n ≤ k) (h : whF t b n en S ≠ .stuck) : whF t b k en S = whF t b n en S := by
  induction hk with
  | refl => rfl
  | step hk ih => rw [whF_mono _ _ _ (by rw [ih]; exact h), ih]
theorem sWh_of {t : BM} {b : SM} {n : Nat} {en : En} {S : Sto} (h : whF t b n en S ≠ .stuck) : sWh t b en S = whF t b n en S := by
  have hx : ∃ n, whF t b n en S ≠ .stuck := ⟨n, h⟩
  unfold sWh
  rw [dif_pos hx]
  have h2 := Classical.choose_spec hx
  rcases Nat.le_total n (Classical.choose hx) with l | l
  · exact whF_le l h
  · exact (whF_le l h2).symm
theorem sWh_eq {t : BM} {b : SM} (en : En) (S : Sto) : sWh t b en S = bS (t en S) en fun c S1 => if c = true then (match b en S1 with
      | .next en2 S2 => sWh t b en2 S2
      | .cnt en2 S2 => sWh t b en2 S2
      | .brk en2 S2 => .next en2 S2
      | .ret d S2 => .ret d S2
      | .exc c fs en2 S2 => .exc c fs en2 S2
      | .stuck => .stuck) else .next en S1 := by
  cases q : t en S with
  | stuck =>
    have : ∀ n, whF t b n en S = .stuck := fun n => by cases n <;> simp [whF, q, bS]
    unfold sWh
    rw [dif_neg (by simp [this])]
    rfl
  | exc c fs S1 =>
    have : whF t b 1 en S = .exc c fs en S1 := by simp [whF, q, bS]
    rw [sWh_of (n := 1) (by rw [this]; nofun), this]
    rfl
  | ok c S1 =>
    simp only [bS]
    cases c with
    | false =>
      have : whF t b 1 en S = .next en S1 := by simp [whF, q, bS]
      rw [sWh_of (n := 1) (by rw [this]; nofun), this]
      rfl
    | true =>
      simp only [if_true]
      have again : ∀ en2 S2, (∀ n, whF t b (n + 1) en S = whF t b n en2 S2) → sWh t b en S = sWh t b en2 S2 := fun en2 S2 e => by
        by_cases hx : ∃ n, whF t b n en2 S2 ≠ .stuck
        · obtain ⟨n, hn⟩ := hx
          rw [sWh_of hn, sWh_of (n := n + 1) (by rw [e]; exact hn), e]
        · have hy : ¬ ∃ n, whF t b n en S ≠ .stuck := fun ⟨n, hn⟩ => by
            cases n with
            | zero => exact hn rfl
            | succ n => rw [e] at hn; exact hx ⟨n, hn⟩
          unfold sWh
          rw [dif_neg hx, dif_neg hy]
      cases qb : b en S1 with
      | next en2 S2 => exact again en2 S2 fun n => by simp [whF, q, bS, qb]
      | cnt en2 S2 => exact again en2 S2 fun n => by simp [whF, q, bS, qb]
      | stuck =>
        have : ∀ n, whF t b n en S = .stuck := fun n => by cases n <;> simp [whF, q, bS, qb]
        unfold sWh
        rw [dif_neg (by simp [this])]
      | brk en2 S2 =>
        have : whF t b 1 en S = .next en2 S2 := by simp [whF, q, bS, qb]
        rw [sWh_of (n := 1) (by rw [this]; nofun), this]
      | ret d S2 =>
        have : whF t b 1 en S = .ret d S2 := by simp [whF, q, bS, qb]
        rw [sWh_of (n := 1) (by rw [this]; nofun), this]
      | exc c fs en2 S2 =>
        have : whF t b 1 en S = .exc c fs en2 S2 := by simp [whF, q, bS, qb]
        rw [sWh_of (n := 1) (by rw [this]; nofun), this]
theorem s_while (hp : PassesOwn (model X.prog X.w) X.A X.env X.xe) (hc : PT X c (tT X.K W t)) (hb : PSs X body (tS X.K W b)) : PS X (.While c body [] pos) (tS X.K W (sWh t b)) := by
  refine PS.imp (ps_while hp hc hb) ?_
  rintro E σ H ⟨en, S, m, er, si, h⟩
  unfold sWh at h
  by_cases hx : ∃ n, whF t b n en S ≠ .stuck
  · rw [dif_pos hx] at h
    refine ⟨fun n σ2 H2 => ∃ en2 S2 m2, EnvR X.K m2 H2 σ2 en2 ∧ Sim X.K m2 S2 H2 ∧ SPost X.K W m2 H2 (whF t b n en2 S2) E, ⟨_, en, S, m, er, si, h⟩, ?_⟩
    rintro n σ2 H2 ⟨en2, S2, m2, er2, s2, h2⟩
    cases n with
    | zero => exact h2.elim
    | succ n =>
      refine ⟨en2, S2, m2, er2, s2, (bS_to er2 h2).mono ?_⟩
      rintro v H3 ⟨S3, m3, e3, s3, h3⟩
      cases v with
      | false => exact h3 σ2 m3 H3 .refl s3 (er2.to e3)
      | true =>
        refine ⟨fun σ' H' => ∃ en2 S2 m2, EnvR X.K m2 H' σ' en2 ∧ Sim X.K m2 S2 H' ∧ SPost X.K W m2 H' (whF t b n en2 S2) E, fun σ' H' z => ⟨n, Nat.lt_succ_self n, z⟩, en2, S3, m3, er2.to e3, s3, ?_⟩
        simp only [if_true] at h3
        cases qb : b en2 S3 with
        | next en5 S5 => simp only [qb] at h3; exact fun σ' m' H' e s r => ⟨en5, S5, m', r, s, SPost.to h3 e⟩
        | cnt en5 S5 => simp only [qb] at h3; exact fun σ' m' H' e s r => ⟨en5, S5, m', r, s, SPost.to h3 e⟩
        | brk en5 S5 => simp only [qb] at h3; exact h3
        | ret d5 S5 => simp only [qb] at h3; exact h3
        | exc c fs en5 S5 => simp only [qb] at h3; exact h3
        | stuck => simp only [qb] at h3; exact h3
  · rw [dif_neg hx] at h; exact h.elim
end

/-! ### targets of several names -/
section
variable {X : Cx} {W : WX} {e : Expr} {es : List Expr} {pos : Pos} {g : GM}
abbrev GsM := List D → En → Sto → Res En
def tGs (K : PySem.W.Frag) (W : WX) (g : GsM) : TGs := fun vs σ H Q => ∃ ds en S m, EnvR K m H σ en ∧ Sim K m S H ∧ Reps K m H vs ds ∧ PostE K W σ m H (g ds en S) Q
theorem PGs.imp {t t' : TGs} (h : PGs X es t) (f : ∀ v σ H Q, t' v σ H Q → t v σ H Q) : PGs X es t' := ⟨fun pins s σ H v u Q I r hw => h.run pins s σ H v u Q I r (f _ _ _ _ hw)⟩
def gsNil : GsM := fun ds en S => match ds with | [] => .ok en S | _ => .stuck
def gsCons (g : GM) (r : GsM) : GsM := fun ds en S => match ds with
  | [] => .stuck
  | d :: ds => match g d en S with
    | .ok en1 S1 => (match r ds en1 S1 with
      | .ok en2 S2 => .ok en2 S2
      | _ => .stuck)
    | _ => .stuck
variable {r : GsM}
theorem gs_nil : PGs X [] (tGs X.K W gsNil) := PGs.imp pgs_nil fun vs σ H Q ⟨ds, en, S, m, er, si, rp, h⟩ => by
  cases rp with
  | nil => exact ⟨rfl, h _ m H .refl si er⟩
  | cons h1 h2 => exact h.elim
theorem gs_cons (h1 : PG X e (tG X.K W g)) (h2 : PGs X es (tGs X.K W r)) (hs : (assignEach (e :: es) X.env).map (·.2) = assign e X.env :: (assignEach es X.env).map (·.2) := by rfl) : PGs X (e :: es) (tGs X.K W (gsCons g r)) := by
  refine PGs.imp (pgs_cons h1 h2 hs) ?_
  rintro vs σ H Q ⟨ds, en, S, m, er, si, rp, h⟩
  cases rp with
  | nil => exact h.elim
  | cons h1 h2 =>
    rename_i v vs d ds
    refine ⟨v, vs, rfl, d, en, S, m, er, si, h1, ?_⟩
    unfold gsCons at h
    cases q : g d en S with
    | stuck => simp only [q] at h; exact h
    | exc c fs S1 => simp only [q] at h; exact h.elim
    | ok en1 S1 =>
      simp only [q] at h
      intro σ1 m1 H1 e1 s1 r1
      refine ⟨ds, en1, S1, m1, r1, s1, h2.to e1, ?_⟩
      cases q2 : r ds en1 S1 with
      | stuck => simp only [q2] at h; exact h
      | ok en2 S2 => simp only [q2] at h; exact PostG.to h e1
      | exc c fs S2 => simp only [q2] at h; exact h.elim
/-- a tuple or a list is unpacked -/
def seqOf : D → Sto → Option (List D)
  | .tup l, _ => some l
  | .lst l, _ => some l
  | .ref i, S => match S[i]? with
    | some (.lst l) => some l
    | _ => none
  | _, _ => none
theorem seq_at {K : PySem.W.Frag} {m : Mp} {H : Hp} {S : Sto} {v : V} {d : D} {l : List D} (si : Sim K m S H) (r : Rep K m H v d) (h : seqOf d S = some l) :
    ∃ a vs, v = .ref a ∧ ((SqT K H a vs ∧ d = .tup l) ∨ (H a = some (.lst vs) ∧ (d = .lst l ∨ ∃ i, d = .ref i ∧ S[i]? = some (.lst l)))) ∧ Reps K m H vs l := by
  cases r with
  | tup h1 hd h2 => cases h; exact ⟨_, _, rfl, .inl ⟨h1, rfl⟩, h2⟩
  | lst h1 h2 h3 => cases h; exact ⟨_, _, rfl, .inr ⟨h1, .inl rfl⟩, h3⟩
  | ref h1 =>
    rename_i a i
    simp only [seqOf] at h
    cases q : S[i]? with
    | none => rw [q] at h; cases h
    | some o =>
      rw [q] at h
      cases o with
      | lst l' =>
        cases h
        obtain ⟨vs, h2, h3⟩ := si.cell i a _ h1 q
        exact ⟨a, vs, rfl, .inr ⟨h2, .inr ⟨i, rfl, q⟩⟩, h3⟩
      | ins c ns l' => cases h
      | dic kvs => cases h
      | dik kvs => cases h
      | tab _ _ => cases h
      | err _ _ => cases h
      | clo _ _ _ _ => cases h
      | fz => cases h
  | _ => cases h
def gUnp (n : Nat) (r : GsM) : GM := fun d en S => match seqOf d S with
  | some l => if l.length = n then (match r l en S with
    | .ok en2 S2 => .ok en2 S2
    | _ => .stuck) else .stuck
  | none => .stuck
theorem PG.or {t u : TG} (h1 : PG X e t) (h2 : PG X e u) : PG X e (fun v σ H Q => t v σ H Q ∨ u v σ H Q) := ⟨fun pins s σ H v u Q I r hw => hw.elim (h1.run pins s σ H v u Q I r) (h2.run pins s σ H v u Q I r)⟩
theorem unp_to {n : Nat} {v : V} {σ : L2.St} {H : Hp} {Q : L2.St → Hp → Prop} (h : tG X.K W (gUnp n r) v σ H Q) : gTup X.K n (tGs X.K W r) v σ H Q ∨ gUnl X.K n (tGs X.K W r) v σ H Q := by
  obtain ⟨d, en, S, m, er, si, rp, h⟩ := h
  unfold gUnp at h
  cases q : seqOf d S with
  | none => simp only [q] at h; exact h.elim
  | some l =>
    simp only [q] at h
    by_cases hl : l.length = n
    · rw [if_pos hl] at h
      obtain ⟨a, vs, rfl, h1, h2⟩ := seq_at si rp q
      have hn : vs.length = n := by rw [h2.len]; exact hl
      have hk : tGs X.K W r vs σ H Q := ⟨l, en, S, m, er, si, h2, by
        cases q2 : r l en S with
        | stuck => simp only [q2] at h; exact h
        | ok en2 S2 => simp only [q2] at h; exact h
        | exc c fs S2 => simp only [q2] at h; exact h.elim⟩
      rcases h1 with ⟨h1, _⟩ | ⟨h1, _⟩
      · exact .inl ⟨a, vs, rfl, h1, hn, hk⟩
      · exact .inr ⟨a, vs, rfl, .inl (.inl h1), hn, hk⟩
    · rw [if_neg hl] at h; exact h.elim
theorem g_unp {k n : Nat} (hc : X.calm = true) (h : PGs X es (tGs X.K W r)) (hn : (assignEach es X.env).length = n := by rfl) (hst : (assignEach es X.env).findIdx? (·.1) = none := by rfl) : PG X (.Tuple es k pos) (tG X.K W (gUnp n r)) :=
  PG.imp (PG.or (pg_tup hc h hn hst) (pg_unl hc h hn hst)) fun _ _ _ _ => unp_to

/-! x[i] = v -/
def fSet : D → D → D → Sto → Option Sto
  | .ref r, .int i, d, S => match S[r]? with
    | some (.lst l) => (ixN l.length i).map fun k => S.set r (.lst (l.set k d))
    | _ => none
  | _, _, _, _ => none
def gSubM (f : D → D → D → Sto → Option Sto) (mo mi : EM) : GM := fun d en S => (mo en S).bind fun o S1 => (mi en S1).bind fun i S2 => match f o i d S2 with
  | some S3 => .ok en S3
  | none => .stuck
def rSetO (K : PySem.W.Frag) (f : D → D → D → Sto → Option Sto) : V → V → V → Hp → (Hp → Prop) → Prop := fun o i v H Q => ∃ od id d S m S', Sim K m S H ∧ Rep K m H o od ∧ Rep K m H i id ∧ Rep K m H v d ∧ f od id d S = some S' ∧ ∀ H', Ext m H m H' → Sim K m S' H' → Q H'
theorem set_ok : PSet X (rSetO X.K fSet) := by
  intro pins s σ H o i v ov iv u Q I ro ri rv h
  obtain ⟨od, id, d, S, m, S', si, r1, r2, r3, hf, hq⟩ := h
  cases r1 with
  | ref h1 =>
    rename_i a k
    cases r2 with
    | int j =>
      simp only [fSet] at hf
      cases q : S[k]? with
      | none => rw [q] at hf; cases hf
      | some ob =>
        rw [q] at hf
        cases ob with
        | ins c ns l => cases hf
        | dic kvs => cases hf
        | dik kvs => cases hf
        | tab _ _ => cases hf
        | err _ _ => cases hf
        | clo _ _ _ _ => cases hf
        | fz => cases hf
        | lst l =>
          obtain ⟨vs, h2, h3⟩ := si.cell k a _ h1 q
          cases qj : ixN l.length j with
          | none => simp only [qj] at hf; cases hf
          | some n =>
            simp only [qj, Option.map_some] at hf
            cases hf
            refine set_list pins s σ H _ _ v ov iv u Q I ro ri rv ⟨a, vs, j, n, rfl, rfl, h2, by rw [h3.len]; exact qj, ?_⟩
            have e : Ext m H m (upd H a (.lst (vs.set n v))) := Ext.put si (List.mem_of_getElem? h1) (nfz h2)
            exact hq _ e (si.put h1 ⟨_, upd_same, (h3.set n r3).to e⟩ (nfz h2))
    | _ => cases hf
  | _ => cases hf
theorem g_sub {o i : Expr} {mo mi : EM} {f : D → D → D → Sto → Option Sto} (hs : PSet X (rSetO X.K f)) (ho : PE X o (tE X.K W mo)) (hi : PE X i (tE X.K W mi))
    (h1 : ∀ v : Value, assign (o.Subscript i pos) X.env v = (do let ov ← holding [v] (eval o X.env); let iv ← holding [v, ov] (eval i X.env); standAt pos; holding [v, ov, iv] (setItem ov iv v); PySem.release [v, ov, iv] []) := by intro _; rfl) : PG X (.Subscript o i pos) (tG X.K W (gSubM f mo mi)) := by
  refine PG.imp (pg_sub ho hi hs h1) ?_
  rintro v σ H Q ⟨d, en, S, m, er, si, rp, h⟩
  refine ⟨en, S, m, er, si, (PostG.bind (R := Rep X.K) h).mono ?_⟩
  rintro ov H1 ⟨od, S1, m1, e1, s1, r1, h1⟩
  refine ⟨en, S1, m1, er.to e1, s1, (PostG.bind (R := Rep X.K) h1).mono ?_⟩
  rintro iv H2 ⟨id, S2, m2, e2, s2, r2, h2⟩
  cases q : f od id d S2 with
  | none => rw [q] at h2; exact h2.elim
  | some S3 =>
    rw [q] at h2
    exact ⟨od, id, d, S2, m2, S3, s2, r1.to e2, r2, (rp.to e1).to e2, q, fun H3 e3 s3 => h2 σ m2 H3 e3 s3 (((er.to e1).to e2).to e3)⟩
end

/-! ### list comprehensions -/
section
variable {X : Cx} {W : WX} {e : Expr} {es : List Expr} {pos : Pos} {g : GM}
def W0 : WX := fun _ _ _ _ => False
def wipeE (en : En) : List Nat → En
  | [] => en
  | v :: vs => (wipeE en vs).set v none
theorem EnvR.wipe {K : PySem.W.Frag} {m : Mp} {H : Hp} {σ : L2.St} {en : En} (er : EnvR K m H σ en) : ∀ vs : List Nat, EnvR K m H (L2.wipe σ vs) (wipeE en vs)
  | [] => er
  | v :: vs => by
    have ih := EnvR.wipe er vs
    refine ⟨by simp [L2.wipe, wipeE, ih.len], fun j c q => ?_⟩
    simp only [wipeE] at q
    simp only [L2.wipe]
    by_cases hj : v = j
    · subst hj
      rw [List.getElem?_set] at q
      simp at q
    · rw [List.getElem?_set_ne hj] at q
      obtain ⟨w, h1, h2⟩ := ih.at_ j c q
      exact ⟨w, by rw [List.getElem?_set_ne hj]; exact h1, h2⟩
/-- a target that touches the slots vs alone -/
def tGw (K : PySem.W.Frag) (W : WX) (vs : List Nat) (g : GM) : TG := fun v σ H Q => ∃ d en S m, EnvR K m H σ en ∧ Sim K m S H ∧ Rep K m H v d ∧ PostG K W (fun m' H' (σ' : L2.St) en' => EnvR K m' H' σ' en' ∧ L2.wipe σ' vs = L2.wipe σ vs) σ m H (g d en S) Q
theorem wipe_set {σ : L2.St} {i : Nat} {v : Option V} : ∀ {vs : List Nat}, i ∈ vs → L2.wipe (σ.set i v) vs = L2.wipe σ vs
  | [], h => by cases h
  | w :: vs, h => by
    by_cases hm : i ∈ vs
    · simp only [L2.wipe]; rw [wipe_set hm]
    · have e : i = w := by
        rcases List.mem_cons.mp h with z | z
        · exact z
        · exact absurd z hm
      subst e
      have aux : ∀ us : List Nat, i ∉ us → L2.wipe (σ.set i v) us = (L2.wipe σ us).set i v := by
        intro us
        induction us with
        | nil => intro _; rfl
        | cons u us ih =>
          intro hu
          simp only [L2.wipe]
          rw [ih (fun z => hu (List.mem_cons_of_mem _ z)), List.set_comm _ _ (fun z => hu (by rw [z]; exact List.mem_cons_self))]
      simp only [L2.wipe]
      rw [aux vs hm, List.set_set]
theorem gw_name {i : Nat} {x : Str} {vs : List Nat} (hi2 : i ∈ vs) (hN : X.N.Nodup) (hi : X.N[i]? = some x) (hx : Loc X.env.scope x) (hf : X.fn x = true ∨ X.env.scope.names.lookup x = some .local := by first | exact Or.inl rfl | exact Or.inr rfl) : PG X (.Name x pos) (tGw X.K W vs (gNm i)) :=
  PG.imp (pg_name hN hi hx hf) fun v σ H Q ⟨d, en, S, m, er, si, r, h⟩ => h _ m H .refl si ⟨er.set r, wipe_set hi2⟩
def tGsw (K : PySem.W.Frag) (W : WX) (vs : List Nat) (g : GsM) : TGs := fun us σ H Q => ∃ ds en S m, EnvR K m H σ en ∧ Sim K m S H ∧ Reps K m H us ds ∧ PostG K W (fun m' H' (σ' : L2.St) en' => EnvR K m' H' σ' en' ∧ L2.wipe σ' vs = L2.wipe σ vs) σ m H (g ds en S) Q
variable {r : GsM} {vs : List Nat}
theorem gws_nil : PGs X [] (tGsw X.K W vs gsNil) := PGs.imp pgs_nil fun us σ H Q ⟨ds, en, S, m, er, si, rp, h⟩ => by
  cases rp with
  | nil => exact ⟨rfl, h _ m H .refl si ⟨er, rfl⟩⟩
  | cons h1 h2 => exact h.elim
theorem gws_cons (h1 : PG X e (tGw X.K W vs g)) (h2 : PGs X es (tGsw X.K W vs r)) (hs : (assignEach (e :: es) X.env).map (·.2) = assign e X.env :: (assignEach es X.env).map (·.2) := by rfl) : PGs X (e :: es) (tGsw X.K W vs (gsCons g r)) := by
  refine PGs.imp (pgs_cons h1 h2 hs) ?_
  rintro us σ H Q ⟨ds, en, S, m, er, si, rp, h⟩
  cases rp with
  | nil => exact h.elim
  | cons h1 h2 =>
    rename_i v us d ds
    refine ⟨v, us, rfl, d, en, S, m, er, si, h1, ?_⟩
    unfold gsCons at h
    cases q : g d en S with
    | stuck => simp only [q] at h; exact h
    | exc c fs S1 => simp only [q] at h; exact h.elim
    | ok en1 S1 =>
      simp only [q] at h
      intro σ1 m1 H1 e1 s1 r1
      refine ⟨ds, en1, S1, m1, r1.1, s1, h2.to e1, ?_⟩
      cases q2 : r ds en1 S1 with
      | stuck => simp only [q2] at h; exact h
      | ok en2 S2 =>
        simp only [q2] at h
        exact fun σ2 m2 H2 e2 s2 r2 => h σ2 m2 H2 (e1.trans e2) s2 ⟨r2.1, r2.2.trans r1.2⟩
      | exc c fs S2 => simp only [q2] at h; exact h.elim
theorem gw_unp {k n : Nat} (hc : X.calm = true) (h : PGs X es (tGsw X.K W vs r)) (hn : (assignEach es X.env).length = n := by rfl) (hst : (assignEach es X.env).findIdx? (·.1) = none := by rfl) : PG X (.Tuple es k pos) (tGw X.K W vs (gUnp n r)) := by
  refine PG.imp (PG.or (pg_tup hc h hn hst) (pg_unl hc h hn hst)) ?_
  rintro v σ H Q ⟨d, en, S, m, er, si, rp, h⟩
  unfold gUnp at h
  cases q : seqOf d S with
  | none => simp only [q] at h; exact h.elim
  | some l =>
    simp only [q] at h
    by_cases hl : l.length = n
    · rw [if_pos hl] at h
      obtain ⟨a, us, rfl, h1, h2⟩ := seq_at si rp q
      have hn : us.length = n := by rw [h2.len]; exact hl
      have hk : tGsw X.K W vs r us σ H Q := ⟨l, en, S, m, er, si, h2, by
        cases q2 : r l en S with
        | stuck => simp only [q2] at h; exact h
        | ok en2 S2 => simp only [q2] at h; exact h
        | exc c fs S2 => simp only [q2] at h; exact h.elim⟩
      rcases h1 with ⟨h1, _⟩ | ⟨h1, _⟩
      · exact .inl ⟨a, us, rfl, h1, hn, hk⟩
      · exact .inr ⟨a, us, rfl, .inl (.inl h1), hn, hk⟩
    · rw [if_neg hl] at h; exact h.elim
/-- the turns of a comprehension -/
def lcM (nxt : Nxt) (g : GM) (t : BM) (e : EM) (en : En) : Nat → Nat → List D → Sto → Res (List D)
  | 0, k, acc, S => match nxt k S with
    | some none => .ok acc S
    | _ => .stuck
  | f + 1, k, acc, S => match nxt k S with
    | none => .stuck
    | some none => .ok acc S
    | some (some d) => match g d en S with
      | .ok en1 S1 => (match t en1 S1 with
        | .ok b S2 => if b = true then (match e en1 S2 with
            | .ok y S3 => if acc.length < lineN then lcM nxt g t e en f (k + 1) (acc ++ [y]) S3 else .stuck
            | _ => .stuck) else lcM nxt g t e en f (k + 1) acc S2
        | _ => .stuck)
      | _ => .stuck
def mYes : BM := fun _ S => .ok true S
theorem ts_nil : PTs X [] (tT X.K W mYes) := ⟨fun pins s σ H Q I hw => pts_nil.run pins s σ H Q I (by
  obtain ⟨en, S, m, er, si, h⟩ := hw
  exact h true m H .refl si rfl)⟩
theorem ts_one {c : Expr} {t : BM} (h : PT X c (tT X.K W t)) : PTs X [c] (tT X.K W t) := pts_one h
/-- the value is frozen, or a cell -/
def mLc (mi : IM) (vs : List Nat) (g : GM) (t : BM) (e : EM) : EM := fun en S => (mi en S).bind fun it S1 => match lcM it.nxt g t e (wipeE en vs) it.n 0 [] S1 with
  | .ok l S2 => .ok (.lst l) S2
  | _ => .stuck
def mLcC (mi : IM) (vs : List Nat) (g : GM) (t : BM) (e : EM) : EM := fun en S => (mi en S).bind fun it S1 => match lcM it.nxt g t e (wipeE en vs) it.n 0 [] S1 with
  | .ok l S2 => .ok (.ref S2.length) (S2 ++ [.lst l])
  | _ => .stuck
theorem Tr.ext {m m1 m2 : Mp} {H H1 H2 : Hp} (a : Tr m H m1 H1) (b : Ext m1 H1 m2 H2) (hk : ∀ x o, H x = some o → ∃ o', H1 x = some o') : Tr m H m2 H2 := by
  obtain ⟨ex, e1, hx⟩ := a.pre
  obtain ⟨ey, e2, hy⟩ := b.pre
  refine ⟨⟨ex ++ ey, by rw [e2, e1]; simp, fun c hc => ?_⟩, fun c hc => a.hid c (by rw [← b.hs]; exact hc), fun c o h n => b.keep c o (a.keep c o h n) (a.mem h n).1, fun c xs h => b.tup c xs (a.tup c xs h), fun c o u h => b.frz c o u (a.frz c o u h), fun c q h => b.cod c q (a.cod c q h)⟩
  rcases List.mem_append.mp hc with h1 | h1
  · exact hx c h1
  · have h2 := hy c h1
    cases q : H c with
    | none => exact .inl rfl
    | some o =>
      obtain ⟨o', q'⟩ := hk c o q
      rw [q'] at h2; cases h2
/-- the state within a comprehension over the base (m1, H1): the new list at A -/
structure LcSt (K : PySem.W.Frag) (m1 : Mp) (H1 : Hp) (A : Addr) (m : Mp) (H : Hp) (S : Sto) (acc : List D) : Prop where
  ext : Ext m1 H1 ⟨m.c, m1.h⟩ H
  tr : Tr m1 H1 m H
  hh : m.h = A :: m1.h
  off : A ∉ m.c
  sim : Sim K m S H
  lst : ∃ vs, H A = some (.lst vs) ∧ Reps K m H vs acc
theorem LcSt.to {K : PySem.W.Frag} {m1 m m' : Mp} {H1 H H' : Hp} {A : Addr} {S S' : Sto} {acc : List D} (l : LcSt K m1 H1 A m H S acc) (e : Ext m H m' H') (s : Sim K m' S' H') : LcSt K m1 H1 A m' H' S' acc := by
  obtain ⟨vs, h1, h2⟩ := l.lst
  have e2 : Ext ⟨m.c, m1.h⟩ H ⟨m'.c, m1.h⟩ H' := ⟨e.pre, rfl, e.trk, e.keep, e.tup, e.frz, e.cod⟩
  exact ⟨l.ext.trans e2, l.tr.ext e l.ext.trk, e.hs.trans l.hh, e.memc h1 l.off, s, vs, e.keep _ _ h1 l.off, h2.to e⟩
theorem LcSt.push {K : PySem.W.Frag} {m1 m : Mp} {H1 H : Hp} {A : Addr} {S : Sto} {acc : List D} {y : V} {d : D} (hA : H1 A = none) (l : LcSt K m1 H1 A m H S acc) (r : Rep K m H y d) {vs : List V} (h1 : H A = some (.lst vs)) :
    LcSt K m1 H1 A m (upd H A (.lst (vs ++ [y]))) S (acc ++ [d]) := by
  obtain ⟨vs', h1', h2⟩ := l.lst
  rw [h1] at h1'; cases h1'
  have k1 : ∀ a o, H1 a = some o → (upd H A (.lst (vs ++ [y]))) a = H a := fun a o q => upd_ne (ne_of_none q hA)
  have t : Tr m H m (upd H A (.lst (vs ++ [y]))) := by
    refine ⟨⟨[], by simp, by simp⟩, fun a h => .inl h, fun a o q n => ?_, fun a xs q => ?_, fun a o u q => ?_, fun a c q => ?_⟩
    · rw [upd_ne fun z => n.2 (by rw [z, l.hh]; exact List.mem_cons_self)]; exact q
    · rw [upd_ne fun z => by rw [z, h1] at q; cases q]; exact q
    · rw [upd_ne fun z => by rw [z, h1] at q; cases q]; exact q
    · rw [upd_ne fun z => by rw [z, h1] at q; cases q]; exact q
  refine ⟨⟨l.ext.pre, rfl, fun a o q => ?_, fun a o q n => ?_, fun a xs q => ?_, fun a o u q => ?_, fun a c q => ?_⟩, ⟨l.tr.pre, l.tr.hid, fun a o q n => ?_, fun a xs q => ?_, fun a o u q => ?_, fun a c q => ?_⟩, l.hh, l.off, ?_, _, upd_same, (h2.app (.cons r .nil)).tr t⟩
  · rw [k1 a o q]; exact l.ext.trk a o q
  · rw [k1 a o q]; exact l.ext.keep a o q n
  · rw [k1 a _ q]; exact l.ext.tup a xs q
  · rw [k1 a _ q]; exact l.ext.frz a o u q
  · rw [k1 a _ q]; exact l.ext.cod a c q
  · rw [k1 a o q]; exact l.tr.keep a o q n
  · rw [k1 a _ q]; exact l.tr.tup a xs q
  · rw [k1 a _ q]; exact l.tr.frz a o u q
  · rw [k1 a _ q]; exact l.tr.cod a c q
  · refine l.sim.same rfl t (fun a ha => upd_ne fun z => l.off (by rw [← z]; exact ha)) (fun a ha => ?_) l.sim.dis
    by_cases z : a = A
    · subst z; exact ⟨_, upd_same⟩
    · obtain ⟨o, q⟩ := l.sim.hid a ha
      exact ⟨o, by rw [upd_ne z]; exact q⟩
theorem lc_run {K : PySem.W.Frag} {it : ItD} {g : GM} {t : BM} {el : EM} {vs : List Nat} {m1 : Mp} {H1 : Hp} {S1 : Sto} {σ : L2.St} {en : En} {J : L2.It} {A : Addr} {Q : Hp → Prop} (er : EnvR K m1 H1 σ en) (s1 : Sim K m1 S1 H1) (wk : WalkD K m1 H1 J it.nxt) (hA : H1 A = none)
    (l : List D) (S2 : Sto) (q : lcM it.nxt g t el (wipeE en vs) it.n 0 [] S1 = .ok l S2) (fin : ∀ m H, LcSt K m1 H1 A m H S2 l → Q H) :
    ∃ Wv : Nat → Nat → Hp → Prop, (∃ m, Wv 0 m (upd H1 A (.lst []))) ∧ ∀ i m H, Wv i m H →
      (J.stop i H ∧ Q H) ∨ (J.go i H ∧ ∃ Nx : Hp → Prop, (∀ H', Nx H' → ∃ m', m' < m ∧ Wv (i + 1) m' H') ∧ ∀ x H', J.yld i H x H' → tGw K W0 vs g x (L2.wipe σ vs) H' fun σ2 H2 => L2.wipe σ2 vs = L2.wipe σ vs ∧ tT K W0 t σ2 H2 fun b H3 =>
        if b = true then tE K W0 el σ2 H3 fun y H4 => ∃ acc, H4 A = some (.lst acc) ∧ acc.length < sizeLine ∧ Nx (upd H4 A (.lst (acc ++ [y]))) else Nx H3) := by
  have wid : ∀ us : List Nat, L2.wipe (L2.wipe σ us) us = L2.wipe σ us := by
    intro us
    induction us with
    | nil => rfl
    | cons u us ih =>
      by_cases hm : u ∈ us
      · simp only [L2.wipe]; rw [wipe_set hm, ih]
      · have aux : ∀ ws : List Nat, u ∉ ws → ∀ τ : L2.St, L2.wipe (τ.set u none) ws = (L2.wipe τ ws).set u none := by
          intro ws
          induction ws with
          | nil => intro _ _; rfl
          | cons w ws ihw =>
            intro hu τ
            simp only [L2.wipe]
            rw [ihw (fun z => hu (List.mem_cons_of_mem _ z)), List.set_comm _ _ (fun z => hu (by rw [z]; exact List.mem_cons_self))]
        simp only [L2.wipe]
        rw [aux us hm, ih, List.set_set]
  have st0 : LcSt K m1 H1 A (m1.hide A) (upd H1 A (.lst [])) S1 [] := by
    have tr := Tr.hide (m := m1) (o := .lst []) hA
    refine ⟨⟨⟨[], by simp [Mp.hide], by simp⟩, rfl, fun a o q => ⟨o, ?_⟩, fun a o q _ => ?_, fun a xs q => ?_, fun a o u q => ?_, fun a c q => ?_⟩, tr, rfl, s1.fresh hA, s1.hide hA, [], upd_same, .nil⟩
    all_goals (rw [upd_ne (ne_of_none q hA)]; exact q)
  refine ⟨fun i f H => ∃ m S acc, LcSt K m1 H1 A m H S acc ∧ lcM it.nxt g t el (wipeE en vs) f i acc S = .ok l S2, ⟨it.n, m1.hide A, S1, [], st0, q⟩, ?_⟩
  rintro i f H ⟨m, S, acc, st, h⟩
  have wk2 := wk m S H st.tr st.sim i
  cases qn : it.nxt i S with
  | none => cases f <;> (simp only [lcM, qn] at h; cases h)
  | some od =>
    rw [qn] at wk2
    cases od with
    | none =>
      have h3 : (Res.ok acc S : Res (List D)) = .ok l S2 := by cases f <;> simpa only [lcM, qn] using h
      cases h3
      exact .inl ⟨wk2, fin m H st⟩
    | some d =>
      cases f with
      | zero => simp only [lcM, qn] at h; cases h
      | succ f =>
        refine .inr ⟨wk2.1, fun H' => ∃ m S acc, LcSt K m1 H1 A m H' S acc ∧ lcM it.nxt g t el (wipeE en vs) f (i + 1) acc S = .ok l S2, fun H' z => ⟨f, Nat.lt_succ_self f, z⟩, ?_⟩
        intro x H3 y
        obtain ⟨e3, s3, r3⟩ := wk2.2 x H3 y
        have st3 := st.to e3 s3
        have er3 : EnvR K m H3 (L2.wipe σ vs) (wipeE en vs) := (er.tr st3.tr).wipe vs
        refine ⟨d, wipeE en vs, S, m, er3, s3, r3, ?_⟩
        simp only [lcM, qn] at h
        cases qg : g d (wipeE en vs) S with
        | stuck => rw [qg] at h; cases h
        | exc c fs S4 => rw [qg] at h; cases h
        | ok en4 S4 =>
          simp only [qg] at h
          intro σ4 m4 H4 e4 s4 r4
          have st4 := st3.to e4 s4
          refine ⟨r4.2.trans (wid vs), en4, S4, m4, r4.1, s4, ?_⟩
          cases qt : t en4 S4 with
          | stuck => rw [qt] at h; cases h
          | exc c fs S5 => rw [qt] at h; cases h
          | ok b S5 =>
            simp only [qt] at h
            intro b' m5 H5 e5 s5 hb
            subst hb
            have st5 := st4.to e5 s5
            cases b' with
            | false =>
              simp only [Bool.false_eq_true, if_false] at h ⊢
              exact ⟨m5, S5, acc, st5, h⟩
            | true =>
              simp only [if_true] at h ⊢
              refine ⟨en4, S5, m5, r4.1.to e5, s5, ?_⟩
              cases qe : el en4 S5 with
              | stuck => rw [qe] at h; cases h
              | exc c fs S6 => rw [qe] at h; cases h
              | ok y S6 =>
                simp only [qe] at h
                by_cases hl : acc.length < lineN
                · rw [if_pos hl] at h
                  intro yv m6 H6 e6 s6 r6
                  have st6 := st5.to e6 s6
                  obtain ⟨us, h7, h8⟩ := st6.lst
                  exact ⟨us, h7, by rw [h8.len, ← line_eq]; exact hl, m6, S6, acc ++ [y], st6.push hA r6 h7, h⟩
                · rw [if_neg hl] at h; cases h
theorem LcSt.fin {K : PySem.W.Frag} {m1 m : Mp} {H1 H : Hp} {A : Addr} {S : Sto} {acc : List D} (hA : Off m1 A) (l : LcSt K m1 H1 A m H S acc) : Ext m1 H1 ⟨m.c, m1.h⟩ H ∧ Sim K ⟨m.c, m1.h⟩ S H ∧ Rep K ⟨m.c, m1.h⟩ H (.ref A) (.lst acc) := by
  obtain ⟨vs, h1, h2⟩ := l.lst
  have t : Tr m H ⟨m.c, m1.h⟩ H := ⟨⟨[], by simp, by simp⟩, fun a h => .inl (by rw [l.hh]; exact List.mem_cons_of_mem _ h), fun a o q _ => q, fun a xs q => q, fun a o u q => q, fun a c q => q⟩
  refine ⟨l.ext, l.sim.same rfl t (fun _ _ => rfl) (fun a ha => l.sim.hid a (by rw [l.hh]; exact List.mem_cons_of_mem _ ha)) (fun a ha hm => l.sim.dis a ha (by rw [l.hh]; exact List.mem_cons_of_mem _ hm)) , .lst h1 ⟨l.off, hA.2⟩ (h2.tr t)⟩
theorem LcSt.finC {K : PySem.W.Frag} {m1 m : Mp} {H1 H : Hp} {A : Addr} {S : Sto} {acc : List D} (hn : H1 A = none) (hA : Off m1 A) (l : LcSt K m1 H1 A m H S acc) : Ext m1 H1 ⟨m.c ++ [A], m1.h⟩ H ∧ Sim K ⟨m.c ++ [A], m1.h⟩ (S ++ [.lst acc]) H ∧ Rep K ⟨m.c ++ [A], m1.h⟩ H (.ref A) (.ref S.length) := by
  obtain ⟨vs, h1, h2⟩ := l.lst
  have t : Tr m H ⟨m.c ++ [A], m1.h⟩ H := ⟨⟨[A], rfl, fun a ha => .inr (by
      have e : a = A := by simpa using ha
      rw [e, l.hh]; exact List.mem_cons_self)⟩, fun a h => .inl (by rw [l.hh]; exact List.mem_cons_of_mem _ h), fun a o q _ => q, fun a xs q => q, fun a o u q => q, fun a c q => q⟩
  have lc : (m.c ++ [A])[S.length]? = some A := by rw [← l.sim.len]; simp
  refine ⟨⟨?_, rfl, l.ext.trk, l.ext.keep, l.ext.tup, l.ext.frz, l.ext.cod⟩, ⟨by simp [l.sim.len], ?_, fun i a o p1 p2 => ?_, fun a ha => l.sim.hid a (by rw [l.hh]; exact List.mem_cons_of_mem _ ha), fun a ha hm => by
    rcases List.mem_append.mp (show a ∈ m.c ++ [A] from ha) with z | z
    · exact l.sim.dis a z (by rw [l.hh]; exact List.mem_cons_of_mem _ hm)
    · have e : a = A := by simpa using z
      exact hA.2 (by rw [← e]; exact hm)⟩, .ref lc⟩
  · obtain ⟨ex, e1, hx⟩ := l.ext.pre
    have e1 : m.c = m1.c ++ ex := e1
    refine ⟨ex ++ [A], by simp [e1], fun a ha => ?_⟩
    rcases List.mem_append.mp ha with z | z
    · exact hx a z
    · have e : a = A := by simpa using z
      rw [e]; exact hn
  · show (m.c ++ [A]).Nodup
    rw [List.nodup_append]
    refine ⟨l.sim.nd, by simp, fun a ha b hb => ?_⟩
    have : b = A := by simpa using hb
    subst this
    intro z; subst z; exact l.off ha
  · have p1 : (m.c ++ [A])[i]? = some a := p1
    by_cases hi : i < m.c.length
    · rw [List.getElem?_append_left hi] at p1
      rw [List.getElem?_append_left (by rw [← l.sim.len]; exact hi)] at p2
      exact (l.sim.cell i a o p1 p2).tr t rfl
    · have e : i = m.c.length := by
        have := (List.getElem?_eq_some_iff.mp p1).1
        simp at this; omega
      subst e
      have e1 : A = a := by simpa using p1
      have e2 : Ob.lst acc = o := by rw [l.sim.len] at p2; simpa using p2
      subst e1 e2
      exact ⟨vs, h1, h2.tr t⟩
theorem e_lc {elt tg iter : Expr} {ifs : List Expr} {scope : Scope} {own : List (Str × Nat)} {mi : IM} {t : BM} {me : EM} (hc : X.calm = true) (hN : X.N.Nodup) (hi : PI X tg iter (tI X.K W mi)) (ok : BlkOk X.N X.env.scope scope own)
    (hg : ∀ (s : Shared) (H : Hp) (C : Addr) (cl : List (Str × Addr)) (fp : List Addr), PG (X.blk s H scope (compEnvC scope cl C X.env) fp) tg (tGw X.K W0 (own.map (·.2)) g))
    (ht : ∀ (s : Shared) (H : Hp) (C : Addr) (cl : List (Str × Addr)) (fp : List Addr), PTs (X.blk s H scope (compEnvC scope cl C X.env) fp) ifs (tT X.K W0 t))
    (he : ∀ (s : Shared) (H : Hp) (C : Addr) (cl : List (Str × Addr)) (fp : List Addr), PE (X.blk s H scope (compEnvC scope cl C X.env) fp) elt (tE X.K W0 me)) (hs : ∀ x, foldedSetIterable iter X.env x = pure x := by intro _; rfl) :
    PE X (.ListComp elt [⟨tg, iter, ifs, 0⟩] scope pos) (tE X.K W (mLc mi (own.map (·.2)) g t me)) := by
  refine PE.imp (pe_lc hc hN hi ok hg ht he hs) ?_
  rintro σ H Q ⟨en, S, m, er, si, h⟩
  refine ⟨en, S, m, er, si, (PostG.bind (R := fun m' H' (J : L2.It) (it : ItD) => WalkD X.K m' H' J it.nxt) h).mono ?_⟩
  rintro J H1 ⟨it, S1, m1, e1, s1, wk, h1⟩
  intro A hA
  cases q : lcM it.nxt g t me (wipeE en (own.map (·.2))) it.n 0 [] S1 with
  | stuck => rw [q] at h1; exact h1.elim
  | exc c fs S2 => rw [q] at h1; exact h1.elim
  | ok l S2 =>
    rw [q] at h1
    refine lc_run (er.to e1) s1 wk hA l S2 q fun m2 H2 st => ?_
    obtain ⟨f1, f2, f3⟩ := st.fin (s1.off hA)
    exact h1 _ _ H2 f1 f2 f3
/-- y = [..] -/
theorem s_setLc {i : Nat} {y : Str} {py spos : Pos} {elt tg iter : Expr} {ifs : List Expr} {scope : Scope} {own : List (Str × Nat)} {mi : IM} {t : BM} {me : EM} (hc : X.calm = true) (hN : X.N.Nodup) (hy : X.N[i]? = some y) (hyl : X.env.scope.names.lookup y = some .local)
    (hsw : swapsWith (.ListComp elt [⟨tg, iter, ifs, 0⟩] scope pos) (some (.Name y py)) spos.line X.env = pure true) (hi : PI X tg iter (tI X.K W mi)) (ok : BlkOk X.N X.env.scope scope own)
    (hg : ∀ (s : Shared) (H : Hp) (C : Addr) (cl : List (Str × Addr)) (fp : List Addr), PG (X.blk s H scope (compEnvC scope cl C X.env) fp) tg (tGw X.K W0 (own.map (·.2)) g))
    (ht : ∀ (s : Shared) (H : Hp) (C : Addr) (cl : List (Str × Addr)) (fp : List Addr), PTs (X.blk s H scope (compEnvC scope cl C X.env) fp) ifs (tT X.K W0 t))
    (he : ∀ (s : Shared) (H : Hp) (C : Addr) (cl : List (Str × Addr)) (fp : List Addr), PE (X.blk s H scope (compEnvC scope cl C X.env) fp) elt (tE X.K W0 me)) (hs : ∀ x, foldedSetIterable iter X.env x = pure x := by intro _; rfl) :
    PS X (.Assign [.Name y py] (.ListComp elt [⟨tg, iter, ifs, 0⟩] scope pos) spos) (tS X.K W (sAsg (mLc mi (own.map (·.2)) g t me) (gNm i))) := by
  refine PS.imp (ps_setLc hc hN hy hyl hsw hi ok hg ht he hs) ?_
  rintro E σ H ⟨en, S, m, er, si, h⟩
  have h0 := eS_to er h
  refine ⟨en, S, m, er, si, (PostG.bind (R := fun m' H' (J : L2.It) (it : ItD) => WalkD X.K m' H' J it.nxt) h0).mono ?_⟩
  rintro J H1 ⟨it, S1, m1, e1, s1, wk, h1⟩
  intro A hA
  cases q : lcM it.nxt g t me (wipeE en (own.map (·.2))) it.n 0 [] S1 with
  | stuck => rw [q] at h1; exact h1.elim
  | exc c fs S2 => rw [q] at h1; exact h1.elim
  | ok l S2 =>
    rw [q] at h1
    refine lc_run (Q := fun H => E.nx (σ.set i (some (.ref A))) H) (er.to e1) s1 wk hA l S2 q fun m2 H2 st => ?_
    obtain ⟨f1, f2, f3⟩ := st.fin (s1.off hA)
    obtain ⟨d, S3, m3, e3, s3, r3, h3⟩ := h1 _ _ H2 f1 f2 f3
    exact h3 _ m3 H2 .refl s3 ((er.to e3).set r3)
theorem s_setLcC {i : Nat} {y : Str} {py spos : Pos} {elt tg iter : Expr} {ifs : List Expr} {scope : Scope} {own : List (Str × Nat)} {mi : IM} {t : BM} {me : EM} (hc : X.calm = true) (hN : X.N.Nodup) (hy : X.N[i]? = some y) (hyl : X.env.scope.names.lookup y = some .local)
    (hsw : swapsWith (.ListComp elt [⟨tg, iter, ifs, 0⟩] scope pos) (some (.Name y py)) spos.line X.env = pure true) (hi : PI X tg iter (tI X.K W mi)) (ok : BlkOk X.N X.env.scope scope own)
    (hg : ∀ (s : Shared) (H : Hp) (C : Addr) (cl : List (Str × Addr)) (fp : List Addr), PG (X.blk s H scope (compEnvC scope cl C X.env) fp) tg (tGw X.K W0 (own.map (·.2)) g))
    (ht : ∀ (s : Shared) (H : Hp) (C : Addr) (cl : List (Str × Addr)) (fp : List Addr), PTs (X.blk s H scope (compEnvC scope cl C X.env) fp) ifs (tT X.K W0 t))
    (he : ∀ (s : Shared) (H : Hp) (C : Addr) (cl : List (Str × Addr)) (fp : List Addr), PE (X.blk s H scope (compEnvC scope cl C X.env) fp) elt (tE X.K W0 me)) (hs : ∀ x, foldedSetIterable iter X.env x = pure x := by intro _; rfl) :
    PS X (.Assign [.Name y py] (.ListComp elt [⟨tg, iter, ifs, 0⟩] scope pos) spos) (tS X.K W (sAsg (mLcC mi (own.map (·.2)) g t me) (gNm i))) := by
  refine PS.imp (ps_setLc hc hN hy hyl hsw hi ok hg ht he hs) ?_
  rintro E σ H ⟨en, S, m, er, si, h⟩
  have h0 := eS_to er h
  refine ⟨en, S, m, er, si, (PostG.bind (R := fun m' H' (J : L2.It) (it : ItD) => WalkD X.K m' H' J it.nxt) h0).mono ?_⟩
  rintro J H1 ⟨it, S1, m1, e1, s1, wk, h1⟩
  intro A hA
  cases q : lcM it.nxt g t me (wipeE en (own.map (·.2))) it.n 0 [] S1 with
  | stuck => rw [q] at h1; exact h1.elim
  | exc c fs S2 => rw [q] at h1; exact h1.elim
  | ok l S2 =>
    rw [q] at h1
    refine lc_run (Q := fun H => E.nx (σ.set i (some (.ref A))) H) (er.to e1) s1 wk hA l S2 q fun m2 H2 st => ?_
    obtain ⟨f1, f2, f3⟩ := st.finC hA (s1.off hA)
    obtain ⟨d, S3, m3, e3, s3, r3, h3⟩ := h1 _ _ H2 f1 f2 f3
    exact h3 _ m3 H2 .refl s3 ((er.to e3).set r3)
end
end Ag

namespace Ag
open PySem L2
/-! ### defs -/
def runB (n : Nat) (s : SM) : List D → Sto → Res D := fun ds S => match s (ds.map some ++ List.replicate (n - ds.length) none) S with
  | .ret d S' => .ok d S'
  | .next _ S' => .ok .non S'
  | .exc c fs _ S' => .exc c fs S'
  | _ => .stuck
def WofE (E : XK) : WX := fun c od _ H => E c od H
def spOf (K : PySem.W.Frag) (k : Nat) (f : List D → Sto → Res D) : Sp := fun vs H Q E => vs.length = k ∧ ∃ ds S m, Reps K m H vs ds ∧ Sim K m S H ∧ PostG K (WofE E) (Rep K) [] m H (f ds S) Q
theorem env_start {K : PySem.W.Frag} {m : Mp} {H : Hp} {N : List Str} {vs : List V} {ds : List D} (r : Reps K m H vs ds) : EnvR K m H (L2.start N vs) (ds.map some ++ List.replicate (N.length - ds.length) none) := by
  have hl := r.len
  refine ⟨by simp [L2.start, hl], fun i d q => ?_⟩
  by_cases hi : i < ds.length
  · rw [List.getElem?_append_left (by simpa using hi), List.getElem?_map] at q
    cases e : ds[i]? with
    | none => rw [e] at q; cases q
    | some c =>
      rw [e] at q
      have e2 : c = d := by simpa using q
      subst e2
      obtain ⟨v, h1, h2⟩ := r.get e
      refine ⟨v, ?_, h2⟩
      unfold L2.start
      rw [List.getElem?_append_left (by rw [List.length_map, hl]; exact hi), List.getElem?_map, h1]
      rfl
  · rw [List.getElem?_append_right (by simpa using hi), List.getElem?_replicate] at q
    split at q <;> cases q
theorem takes0N {X : Cx} : L2N.Takes X W0 := fun _ _ ⟨_, _, _, _, _, _, _, _, _, _, _, _, _, _, _, _, w⟩ => w.elim
/-- a def's promise where no repr runs around it -/
structure FnG (P : Program) (w : World) (K : PySem.W.Frag) (mg : Str → Option Value) (base : Heap) (k : Nat) (f : Addr) (fd : FuncData) (ps : List Str) (sp : Sp) : Prop where
  len : ∀ vs H Q E, sp vs H Q E → vs.length = ps.length
  run : ∀ (A : Around) (outer : List Env) (s : Shared) (H : Hp) (args : Args) (us : List Value) (vs : List V) (Q : VK) (E : XK), A.guards = some [] → Room k A → Env0 P w K mg base A outer s H → BindsTo s fd args (ps.zip us) → Vals vs us → sp vs H Q E →
    codeAny (model P w) A (.call (.ref f) args) (CR (L2N.CX P w) outer P w H s Q E) s
section
variable {P : Program} {w : World} {K : PySem.W.Frag} {mg : Str → Option Value} {base : Heap} {x qual : Str} {params : Arguments} {body : List Stmt} {scope : Scope} {kws : List (Str × V)} {f : Addr} {fd : FuncData}
theorem FnG.weak {k : Nat} {ps : List Str} {sp sp' : Sp} (F : FnG P w K mg base k f fd ps sp) (h : ∀ vs H Q E, sp' vs H Q E → sp vs H Q E) : FnG P w K mg base k f fd ps sp' :=
  ⟨fun vs H Q E q => F.len _ _ _ _ (h vs H Q E q), fun A outer s H args us vs Q E hg hr he hb hv q => F.run A outer s H args us vs Q E hg hr he hb hv (h _ _ _ _ q)⟩
/-- the context of a def's body -/
structure Bd (X : Cx) (W : WX) (k : Nat) : Prop where
  tk : L2N.Takes X W
  hp : PassesOwn (model X.prog X.w) X.A X.env X.xe
  calm : X.calm = true
  room : Room k X.A
  gd : X.A.guards = some []
theorem fn_ok {N ps : List Str} {k : Nat} {s : SM} (F : FunD K x qual params body scope [] kws f fd) (S : FnScope N ps scope)
    (hb : ∀ (cdv : Value) (A : Around) (outer : List Env) (s0 : Shared) (H : Hp) (E : XK), Bd (cxOf (L2N.CX P w) P w K mg base N qual scope f cdv A outer s0 H E) (WofE E) k → PSs (cxOf (L2N.CX P w) P w K mg base N qual scope f cdv A outer s0 H E) body (tS K (WofE E) s)) :
    FnG P w K mg base (k + 1) f fd ps (spOf K ps.length (runB N.length s)) := by
  obtain ⟨oc, od, dV, kV, doc, pm, an, cdv, ct, osl, rfl, lk, hcd, _, _⟩ := F.ex
  refine ⟨fun vs H Q E h => h.1, fun A outer s0 H args us vs Q E hg hr e0 hbi rv h => ?_⟩
  have hl : vs.length = ps.length := h.1
  have st : ∀ b o, base.get? b = some o → s0.heap.get? b = some o := fun b o e => (e0.bs b o e).1
  have KX : K.In s0.heap := e0.mod.kin.keeps st
  have kinds : ∀ y ∈ ps.zip us, scope.names.lookup y.1 = some .local ∨ (scope.names.lookup y.1 = some .cell ∧ ((PySem.cellsFrom (s0.heap.objs.size + 1) scope.names []).lookup y.1).isSome = true) := fun y hy =>
    (S.par y.1 (List.of_mem_zip hy).1).elim .inl fun q => .inr ⟨q, PySem.W.cellsFrom_some _ _ _ (.inl q)⟩
  refine codeAny_call_function hr.depth (KX _ _ lk) rfl S.co S.gen rfl (PySem.W.codeRec_of KX hcd) (hbi _ _ _ _ ?_)
  refine wpAny_newFunctionEnv_cells S.kind kinds fun env he s1 y => ?_
  subst he
  refine ⟨(e0.mod.nolimit.keeps st).keeps y.toInCall.keep, codeAny_func ?_⟩
  have I : L2.Inv (cxOf (L2N.CX P w) P w K mg base N qual scope f cdv A outer s0 H E) [] (L2.start N vs) H s1 := inv_start S hr.hd e0 hl rv y
  have bd : Bd (cxOf (L2N.CX P w) P w K mg base N qual scope f cdv A outer s0 H E) (WofE E) k := ⟨L2N.takes_of rfl rfl rfl rfl, passes_of rfl, rfl, hr.deeper _, hg⟩
  obtain ⟨_, ds, S0, m, r, si, h⟩ := h
  refine wpAny_mono ((hb cdv A outer s0 H E bd).run [] s1 (L2.start N vs) H { nx := fun _ H' => Q .non H', rt := Q } I ⟨_, S0, m, env_start r, si, ?_⟩) (fun fl s' hs => ?_) fun e s' hs => hs
  · unfold runB at h
    cases q : s (ds.map some ++ List.replicate (N.length - ds.length) none) S0 with
    | next en S' => rw [q] at h; exact fun σ' m' H' e s' _ => h _ m' H' e s' .non
    | ret d S' => rw [q] at h; exact h
    | brk en S' => rw [q] at h; exact h.elim
    | cnt en S' => rw [q] at h; exact h.elim
    | exc c fs en S' => rw [q] at h; exact fun σ' od m' H' e s' _ z => h od m' H' e s' z
    | stuck => rw [q] at h; exact h
  · cases fl with
    | ret u =>
      obtain ⟨v, σ', H', J, r1, q⟩ := hs
      exact ⟨v, H', J.os, J.bare, J.base, J.hok, r1, q⟩
    | next =>
      obtain ⟨σ', H', J, q⟩ := hs
      exact ⟨V.non, H', J.os, J.bare, J.base, J.hok, rfl, q⟩
    | brk => obtain ⟨_, _, _, q⟩ := hs; exact q.elim
    | cont => obtain ⟨_, _, _, q⟩ := hs; exact q.elim
end
theorem bd_blk {X : Cx} {W : WX} {k : Nat} (b : Bd X W k) {s : Shared} {H : Hp} {scope : Scope} {C : Addr} {cl : List (Str × Addr)} {fp : List Addr} : Bd (X.blk s H scope (compEnvC scope cl C X.env) fp) W0 k :=
  ⟨takes0N, PassesOwn.never, b.calm, b.room, b.gd⟩
/-- the callee runs -/
theorem run_G {X : Cx} {W : WX} {k j : Nat} {f : Addr} {fd : FuncData} {ps : List Str} {sp : Sp} {pins : List (Addr × Obj)} {σ : L2.St} {H : Hp} {s : Shared} {Q : VK} {us0 us : List Value} {kw : List (Str × Value)} {vs : List V} (B : Bd X W j) (F : FnG X.prog X.w X.K X.mg X.base k f fd ps sp) (hk : k ≤ j)
    (I : L2.Inv X pins σ H s) (hb : BindsTo s fd ⟨us0, kw⟩ (ps.zip us)) (r : Vals vs us) (h : sp vs H Q (WE W σ)) : wpAny (model X.prog X.w) X.A (call (.ref f) us0 kw) (EP X pins σ Q) X.xe s := by
  refine wpAny_call (codeAny_mono (F.run X.A X.stack s H ⟨us0, kw⟩ us vs Q (WE W σ) B.gd (B.room.mono hk) I.env0 hb r h) fun r s' hq => ?_)
  cases r with
  | error e => exact L2N.passAt B.tk σ pins H s e s' I hq
  | ok fl => cases fl <;> first | exact I.after hq | exact hq.elim
theorem run_G0 {X : Cx} {W : WX} {k j : Nat} {f : Addr} {fd : FuncData} {ps : List Str} {sp : Sp} {pins : List (Addr × Obj)} {σ : L2.St} {H : Hp} {s : Shared} {Q : VK} {us : List Value} {vs : List V} (B : Bd X W j) (F : FnG X.prog X.w X.K X.mg X.base k f fd ps sp) (hk : k ≤ j)
    (I : L2.Inv X pins σ H s) (hb : Binds X.K fd ps []) (r : Vals vs us) (h : sp vs H Q (WE W σ)) : wpAny (model X.prog X.w) X.A (call (.ref f) us) (EP X pins σ Q) X.xe s := by
  have hl : us.length = ps.length := by rw [← r.length]; exact F.len _ _ _ _ h
  have b := hb s us I.kIn (by rw [List.append_nil]; exact hl)
  rw [List.append_nil] at b
  exact run_G B F hk I b r h

section
variable {X : Cx} {W : WX} {e o : Expr} {es : List Expr} {pos p apos : Pos} {mr : AM} {k n j : Nat} {f : Addr} {fd : FuncData} {ps : List Str} {fm : List D → Sto → Res D} {x : Str} {ma : EM}
def mCall (n : Nat) (fm : List D → Sto → Res D) (mr : AM) : EM := fun en S => (mr en S).bind fun ds S1 => if ds.length = n then fm ds S1 else .stuck
theorem sp_of_post {m : Mp} {H : Hp} {σ : L2.St} {S : Sto} {vs : List V} {ds : List D} {Q : VK} (s : Sim X.K m S H) (r : Reps X.K m H vs ds) (h : Post X.K W σ m H (if ds.length = n then fm ds S else .stuck) Q) : spOf X.K n fm vs H Q (WE W σ) := by
  by_cases hl : ds.length = n
  · rw [if_pos hl] at h
    refine ⟨by rw [r.len]; exact hl, ds, S, m, r, s, ?_⟩
    cases q : fm ds S with
    | ok d S' => rw [q] at h; exact h
    | exc c fs S' => rw [q] at h; exact h
    | stuck => rw [q] at h; exact h
  · rw [if_neg hl] at h; exact h.elim
theorem e_call (B : Bd X W j) (F : FnG X.prog X.w X.K X.mg X.base k f fd ps (spOf X.K n fm)) (hk : k ≤ j) (hg : Gl X x) (hm : X.mg x = some (.ref f)) (hkp : PySem.W.keepIn X.K (.ref f) = true) (hb : Binds X.K fd ps [])
    (ha : PA X (e :: es) (tA X.K W mr)) (hdb : (x == ("__debug__" : Str)) = false := by decide) (he : starEach (e :: es) X.env = (false, eval e X.env) :: starEach es X.env := by rfl) (hpl : (backTo pos (starEach es X.env)).any (·.1) = false := by rfl) :
    PE X (.Call (.Name x p) (e :: es) [] pos) (tE X.K W (mCall n fm mr)) := by
  refine ⟨fun pins s σ H Q I h => ?_⟩
  refine wpAny_Call_Name_kw (ld_glob I hg hm ?_ hdb)
  obtain ⟨en, S, m, er, si, h⟩ := h
  refine PySem.W.callWith_K (h₀ := X.base) I.ok.mod.kin hkp (thn (ha.run pos pins s σ H _ I ⟨en, S, m, er, si, h.bind⟩) fun us s1 ⟨vs, H1, I1, r, ds, S1, m1, e1, sm, r1, h1⟩ => ⟨I1.kIn, ?_⟩) he hpl
  exact run_G0 B F hk I1 hb r (sp_of_post sm r1 h1)

/-! keywords alone: f(k = v, ..), every parameter -/
theorem k_nil : PK X [] (tA X.K W mNil) := ⟨fun ps pins s σ H Q I h => pk_nil.run ps pins s σ H Q I (by
  obtain ⟨en, S, m, er, si, h⟩ := h
  exact h [] m H .refl si .nil)⟩
theorem k_cons {nm : Option Str} {kpos : Pos} {kws : List Keyword} (ha : PE X e (tE X.K W ma)) (hr : PK X kws (tA X.K W mr)) : PK X (⟨nm, e, kpos⟩ :: kws) (tA X.K W (mCons ma mr)) := ⟨fun ps pins s σ H Q I h => (pk_cons ha hr).run ps pins s σ H Q I (by
  obtain ⟨en, S, m, er, si, h⟩ := h
  refine ⟨en, S, m, er, si, h.bind.mono ?_⟩
  rintro v H1 ⟨d, S1, m1, e1, s1, r1, h1⟩
  refine ⟨en, S1, m1, er.to e1, s1, h1.bind.mono ?_⟩
  rintro vs H2 ⟨ds, S2, m2, e2, s2, r2, h2⟩
  exact h2 (v :: vs) m2 H2 .refl s2 (.cons (r1.to e2) r2))⟩
def pick {α : Type} (ix : List Nat) (l : List α) : List α := ix.filterMap fun i => l[i]?
theorem Reps.pick {K : PySem.W.Frag} {m : Mp} {H : Hp} {vs : List V} {ds : List D} (r : Reps K m H vs ds) : ∀ ix : List Nat, Reps K m H (pick ix vs) (pick ix ds)
  | [] => .nil
  | i :: ix => by
    have ih := Reps.pick r ix
    unfold Ag.pick at ih ⊢
    cases q : ds[i]? with
    | some d =>
      obtain ⟨v, h1, h2⟩ := r.get q
      simp only [List.filterMap_cons, q, h1]
      exact .cons h2 ih
    | none =>
      have hn : vs[i]? = none := by
        have := r.len
        rw [List.getElem?_eq_none_iff] at q ⊢
        omega
      simp only [List.filterMap_cons, q, hn]
      exact ih
theorem Vals.pick {vs : List V} {us : List Value} (r : Vals vs us) : ∀ ix : List Nat, Vals (pick ix vs) (pick ix us)
  | [] => .nil
  | i :: ix => by
    have ih := Vals.pick r ix
    unfold Ag.pick at ih ⊢
    cases q : vs[i]? with
    | some v =>
      obtain ⟨u, h1, h2⟩ := L2.Vals.get r q
      simp only [List.filterMap_cons, q, h1]
      exact .cons h2 ih
    | none =>
      simp only [List.filterMap_cons, q, L2.Vals.none_of r q]
      exact ih
/-- how the keywords bind -/
def KwB (K : PySem.W.Frag) (fd : FuncData) (ps ks : List Str) (ix : List Nat) (own : List Value → List Value) : Prop := ∀ (s : Shared) (ws : List Value), K.In s.heap → ws.length = ks.length → BindsTo s fd ⟨own [], ks.zip ws⟩ (ps.zip (own (pick ix ws)))
theorem e_callKw {kws : List Keyword} {ks : List Str} {ix : List Nat} (B : Bd X W j) (F : FnG X.prog X.w X.K X.mg X.base k f fd ps (spOf X.K n fm)) (hk : k ≤ j) (hg : Gl X x) (hm : X.mg x = some (.ref f)) (hkp : PySem.W.keepIn X.K (.ref f) = true)
    (hb : KwB X.K fd ps ks ix id) (hkw : PK X kws (tA X.K W mr)) (hll : ks.length = n) (hall : (backToKw pos (keywordEach kws X.env)).all (·.1.isSome) = true := by rfl) (hks : (backToKw pos (keywordEach kws X.env)).filterMap (·.1) = ks := by rfl)
    (hdb : (x == ("__debug__" : Str)) = false := by decide) (hpl : ((backTo pos (starEach [] X.env)).any (·.1) || (backToKw pos (keywordEach kws X.env)).any (·.1.isNone)) = false := by rfl) :
    PE X (.Call (.Name x p) [] kws pos) (tE X.K W (fun en S => (mr en S).bind fun ds S1 => if ds.length = n then (if (pick ix ds).length = n then fm (pick ix ds) S1 else .stuck) else .stuck)) := by
  refine ⟨fun pins s σ H Q I h => ?_⟩
  refine wpAny_Call_Name_kw (ld_glob I hg hm ?_ hdb)
  refine PySem.W.callWith_KW0 (h₀ := X.base) I.ok.mod.kin hkp hall ?_ hpl
  obtain ⟨en, S, m, er, si, h⟩ := h
  refine thn (hkw.run pos pins s σ H (fun vs H1 => ∃ ds S1 m1, Ext m H m1 H1 ∧ Sim X.K m1 S1 H1 ∧ Reps X.K m1 H1 vs ds ∧ Post X.K W σ m1 H1 (if ds.length = n then (if (pick ix ds).length = n then fm (pick ix ds) S1 else .stuck) else .stuck) Q) I ⟨en, S, m, er, si, h.bind⟩) fun ws s2 ⟨zs, H2, I2, rz, ds, S1, m1, e1, s1, r1, h1⟩ => ⟨I2.kIn, ?_⟩
  rw [hks]
  by_cases hl : ds.length = n
  · rw [if_pos hl] at h1
    have hsp := sp_of_post (fm := fm) s1 (r1.pick ix) h1
    have r2 := Vals.pick rz ix
    have hlen : ws.length = ks.length := by rw [← rz.length, r1.len, hl, hll]
    exact run_G (us0 := []) B F hk I2 (hb s2 ws I2.kIn hlen) r2 hsp
  · rw [if_neg hl] at h1; exact h1.elim

/-! ### instances: fields -/
def look (f : Str) : List Str → List D → Option D
  | [], _ => none
  | _ :: _, [] => none
  | g :: ns, d :: ds => if g = f then some d else look f ns ds
def fFld (cs : List Str) (f : Str) : D → Sto → Option D
  | .obj c ns l, _ => if c ∈ cs then look f ns l else none
  | .ref i, S => match S[i]? with
    | some (.ins c ns l) => if c ∈ cs then look f ns l else none
    | _ => none
  | _, _ => none
theorem look_ok {K : PySem.W.Frag} {m : Mp} {H : Hp} {f : Str} : ∀ {fs : List (Str × V)} {ns : List Str} {ds : List D} {d : D}, fs.map (·.1) = ns → Reps K m H (fs.map (·.2)) ds → look f ns ds = some d → ∃ v, fs.lookup f = some v ∧ Rep K m H v d
  | [], _, _, _, h1, h2, h3 => by subst h1; cases h3
  | (g, v) :: fs, ns, ds, d, h1, h2, h3 => by
    subst h1
    cases h2 with
    | cons r1 r2 =>
      rename_i c ds
      simp only [List.map_cons, look] at h3
      by_cases hg : g = f
      · rw [if_pos hg] at h3
        cases h3
        subst hg
        exact ⟨v, by simp [List.lookup], r1⟩
      · rw [if_neg hg] at h3
        obtain ⟨w, h4, h5⟩ := look_ok rfl r2 h3
        have hb : (f == g) = false := beq_eq_false_iff_ne.mpr (fun z => hg z.symm)
        exact ⟨w, by simp [List.lookup, hb, h4], h5⟩
theorem ins_at {K : PySem.W.Frag} {m : Mp} {H : Hp} {S : Sto} {cs : List Str} {f : Str} {v : V} {d r : D} (si : Sim K m S H) (rp : Rep K m H v d) (h : fFld cs f d S = some r) :
    ∃ a c dx fs u, v = .ref a ∧ c ∈ cs ∧ H a = some (.ins (He.ga K c) dx fs) ∧ fs.lookup f = some u ∧ Rep K m H u r := by
  cases rp with
  | obj h1 h2 h3 h4 =>
    rename_i a dx c fs ns ds
    simp only [fFld] at h
    by_cases hc : c ∈ cs
    · rw [if_pos hc] at h
      obtain ⟨u, h5, h6⟩ := look_ok h3 h4 h
      exact ⟨a, c, dx, fs, u, rfl, hc, h1, h5, h6⟩
    · rw [if_neg hc] at h; cases h
  | ref h1 =>
    rename_i a i
    simp only [fFld] at h
    cases q : S[i]? with
    | none => rw [q] at h; cases h
    | some ob =>
      rw [q] at h
      cases ob with
      | dic kvs => cases h
      | dik kvs => cases h
      | tab _ _ => cases h
      | err _ _ => cases h
      | clo _ _ _ _ => cases h
      | fz => cases h
      | lst l => cases h
      | ins c ns l =>
        simp only at h
        by_cases hc : c ∈ cs
        · rw [if_pos hc] at h
          obtain ⟨dx, fs, g1, g2, g3⟩ := si.cell i a _ h1 q
          obtain ⟨u, h5, h6⟩ := look_ok g2 g3 h
          exact ⟨a, c, dx, fs, u, rfl, hc, g1, h5, h6⟩
        · rw [if_neg hc] at h; cases h
  | _ => cases h
theorem e_fld {cs : List Str} {f : Str} (hc : ∀ c ∈ cs, Cls X.K (He.ga X.K c) ∧ NoAttr X.K (He.ga X.K c) f) (ha : PE X e (tE X.K W ma)) (hb : attributeBase e f X.env (eval e X.env) = eval e X.env := by rfl) : PE X (.Attribute e f pos) (tE X.K W (mUn (fFld cs f) ma)) := by
  refine PE.imp (pe_fld ha hb) ?_
  rintro σ H Q ⟨en, S, m, er, si, h⟩
  refine ⟨en, S, m, er, si, h.bind.mono ?_⟩
  rintro v H1 ⟨d, S1, m1, e1, s1, r1, h1⟩
  cases q : fFld cs f d S1 with
  | none => rw [q] at h1; exact h1.elim
  | some r =>
    rw [q] at h1
    obtain ⟨a, c, dx, fs, u, rfl, hcs, g1, g2, g3⟩ := ins_at s1 r1 q
    exact ⟨a, _, dx, fs, u, rfl, g1, (hc c hcs).1, (hc c hcs).2, g2, h1 u m1 H1 .refl s1 g3⟩
/-- the class of an instance -/
def clsD : D → Sto → Option Str
  | .obj c _ _, _ => some c
  | .ref i, S => match S[i]? with
    | some (.ins c _ _) => some c
    | _ => none
  | _, _ => none
theorem cls_at {K : PySem.W.Frag} {m : Mp} {H : Hp} {S : Sto} {v : V} {d : D} {c : Str} (si : Sim K m S H) (rp : Rep K m H v d) (h : clsD d S = some c) :
    ∃ a dx fs, v = .ref a ∧ H a = some (.ins (He.ga K c) dx fs) := by
  cases rp with
  | obj h1 h2 h3 h4 => cases h; exact ⟨_, _, _, rfl, h1⟩
  | ref h1 =>
    rename_i a i
    simp only [clsD] at h
    cases q : S[i]? with
    | none => rw [q] at h; cases h
    | some ob =>
      rw [q] at h
      cases ob with
      | dic kvs => cases h
      | dik kvs => cases h
      | tab _ _ => cases h
      | err _ _ => cases h
      | clo _ _ _ _ => cases h
      | fz => cases h
      | lst l => cases h
      | ins c' ns l =>
        cases h
        obtain ⟨dx, fs, g1, _⟩ := si.cell i a _ h1 q
        exact ⟨a, dx, fs, rfl, g1⟩
  | _ => cases h
/-- a property: the getter fm on an instance of the class c; it raises nothing -/
def mProp (c : Str) (fm : List D → Sto → Res D) (ma : EM) : EM := fun en S => (ma en S).bind fun d S1 => match clsD d S1 with
  | some c' => if c' = c then (match fm [d] S1 with
    | .ok r S2 => .ok r S2
    | _ => .stuck) else .stuck
  | none => .stuck
theorem e_prop {c f : Str} {g pa : Addr} (B : Bd X W j) (hcl : Cls X.K (He.ga X.K c)) (hp : PropOf X.K (He.ga X.K c) f pa g) (F : FnG X.prog X.w X.K X.mg X.base k g fd ps (spOf X.K 1 fm)) (hk : k + 1 ≤ j) (hb : Binds X.K fd ps [])
    (ha : PE X e (tE X.K W ma)) (hab : attributeBase e f X.env (eval e X.env) = eval e X.env := by rfl) : PE X (.Attribute e f pos) (tE X.K W (mProp c fm ma)) := by
  refine ⟨fun pins s σ H Q I h => ?_⟩
  obtain ⟨en, S, m, er, si, h⟩ := h
  refine attr_of hab (thn (ha.run pins s σ H _ I ⟨en, S, m, er, si, h.bind⟩) fun u s1 ⟨x, H1, I1, rx, d, S1, m1, e1, sm, r1, h1⟩ => ?_)
  cases q : clsD d S1 with
  | none => simp only [q] at h1; exact h1.elim
  | some c' =>
    simp only [q] at h1
    by_cases hc : c' = c
    · rw [if_pos hc] at h1
      subst hc
      obtain ⟨a, dx, fs, rfl, g1⟩ := cls_at sm r1 q
      obtain rfl : u = Value.ref a := rx
      have hsp : spOf X.K 1 fm [.ref a] H1 Q fun _ _ _ => False := ⟨rfl, [d], S1, m1, .cons r1 .nil, sm, by
        cases q2 : fm [d] S1 with
        | ok r S2 => simp only [q2] at h1; exact h1
        | exc c fs S2 => simp only [q2] at h1; exact h1.elim
        | stuck => simp only [q2] at h1; exact h1⟩
      obtain ⟨mA, O, _, _, _, _⟩ := ins_get I1.hok g1
      obtain ⟨od, J, _⟩ := O.look
      obtain ⟨rest, hrec⟩ := hp.rec_
      have I2 := I1.tok (s1.toks + 1)
      have hcs : (PySem.W.clsIn X.K (He.ga X.K c')).isSome = true := by
        obtain ⟨cd, z, _⟩ := PySem.W.any_some hcl.hd
        rw [z]; rfl
      have hpg := PySem.W.plainGet_of (hcl.get f)
      refine PySem.W.get_bind I1.kIn J hpg.1 (PySem.W.findObj_data hcs hp.at_ hp.get hp.tak) hpg.2 (wpAny_call (PySem.W.prop_get (s := { s1 with toks := s1.toks + 1 }) I1.kIn hrec ?_))
      have hl : ([Value.ref a] : List Value).length = ps.length := F.len _ _ _ _ hsp
      have b := hb { s1 with toks := s1.toks + 1 } [.ref a] I2.kIn (by rw [List.append_nil]; exact hl)
      rw [List.append_nil] at b
      refine codeAny_mono (F.run X.A.in1 X.stack _ H1 ⟨[.ref a], []⟩ [.ref a] [.ref a] Q (fun _ _ _ => False) B.gd (B.room.mono hk).in1 I2.env0.in1 b (.cons rfl .nil) hsp) fun r s' hq => ?_
      cases r with
      | error er =>
        obtain ⟨_, _, _, _, _, _, _, _, _, _, _, _, z⟩ := hq
        exact z.elim
      | ok fl =>
        cases fl with
        | ret u =>
          obtain ⟨v, H', I3, rv, q3⟩ := I2.after hq
          show wpAny _ _ (handedOut u) _ _ _
          rw [PySem.W.handedOut_of (handed_of rv)]
          exact wpAny_pure ⟨v, H', I3, rv, q3⟩
        | next => exact hq.elim
        | brk => exact hq.elim
        | cont => exact hq.elim
    · rw [if_neg hc] at h1; exact h1.elim
end
end Ag

namespace Ag
open PySem L2
/-! ### cells that are left behind -/
mutual
def below (n : Nat) : D → Bool
  | .ref i => decide (i < n)
  | .tup l => belows n l
  | .lst l => belows n l
  | .scr l => belows n l
  | .obj _ _ l => belows n l
  | .dct l => belows n l
  | _ => true
def belows (n : Nat) : List D → Bool
  | [] => true
  | d :: l => below n d && belows n l
end
def Ob.below (n : Nat) : Ob → Bool
  | .lst l => belows n l
  | .ins _ _ l => belows n l
  | .dic l => belows n l
  | .dik l => belows n (l.map (·.2))
  | .tab _ _ => true
  | .err _ fs => belows n (fs.map (·.2))
  | .clo _ _ _ ds => belows n ds
  | .fz => true
def cutM (n : Nat) (m : Mp) : Mp := ⟨m.c.take n, m.h⟩
section
variable {K : PySem.W.Frag} {m : Mp} {H : Hp} {n : Nat}
theorem off_cut {a : Addr} (h : Off m a) : Off (cutM n m) a := ⟨fun z => h.1 (List.mem_of_mem_take z), h.2⟩
mutual
theorem Rep.cut : ∀ (d : D) (v : V), below n d = true → Rep K m H v d → Rep K (cutM n m) H v d
  | .non, v, _, h => by cases h; exact .non
  | .bl b, v, _, h => by cases h; exact .bl b
  | .int b, v, _, h => by cases h; exact .int b
  | .str b, v, _, h => by cases h; exact .str b
  | .ty b, v, _, h => by cases h; exact .ty b
  | .gl b, v, _, h => by cases h; exact .gl b
  | .tup l, v, b, h => by
    cases h with
    | tup h1 hd h2 => exact .tup h1 hd (Reps.cut l _ (by simpa [below] using b) h2)
  | .lst l, v, b, h => by
    cases h with
    | lst h1 h2 h3 => exact .lst h1 (off_cut h2) (Reps.cut l _ (by simpa [below] using b) h3)
  | .scr l, v, b, h => by
    cases h with
    | scr h1 h2 => exact .scr h1 (Reps.cut l _ (by simpa [below] using b) h2)
  | .ref i, v, b, h => by
    cases h with
    | ref h1 =>
      have hi : i < n := by simpa [below] using b
      exact .ref (by show (m.c.take n)[i]? = _; rw [List.getElem?_take_of_lt hi]; exact h1)
  | .obj c ns l, v, b, h => by
    cases h with
    | obj h1 h2 h3 h4 => exact .obj h1 (off_cut h2) h3 (Reps.cut l _ (by simpa [below] using b) h4)
  | .dct l, v, b, h => by
    cases h with
    | dct h1 h2 h3 h4 => exact .dct h1 (off_cut h2) (DicR.cut l _ (by simpa [below] using b) h3) h4
theorem DicR.cut : ∀ (l : List D) (xs : List (NestedKey × Addr × Value)), belows n l = true → DicR K m H l xs → DicR K (cutM n m) H l xs
  | [], xs, _, h => by cases h; exact .nil
  | [_], xs, _, h => by cases h
  | kd :: vd :: l, xs, b, h => by
    cases h with
    | cons a r c d q =>
      have b2 : below n kd = true ∧ below n vd = true ∧ belows n l = true := by simpa [belows, Bool.and_eq_true] using b
      exact .cons a (Rep.cut kd _ b2.1 r) c (Rep.cut vd _ b2.2.1 d) (DicR.cut l _ b2.2.2 q)
theorem Reps.cut : ∀ (ds : List D) (vs : List V), belows n ds = true → Reps K m H vs ds → Reps K (cutM n m) H vs ds
  | [], vs, _, h => by cases h; exact .nil
  | d :: ds, vs, b, h => by
    cases h with
    | cons h1 h2 =>
      have b2 : below n d = true ∧ belows n ds = true := by simpa [belows, Bool.and_eq_true] using b
      exact .cons (Rep.cut d _ b2.1 h1) (Reps.cut ds _ b2.2 h2)
end
theorem ExR.cut {od : Option Addr} {fs : List (Str × D)} (b : belows n (fs.map (·.2)) = true) (h : ExR K m H od fs) : ExR K (cutM n m) H od fs := by
  cases od with
  | none => exact h
  | some d =>
    obtain ⟨vs, h1, h0, h2, h3⟩ := h
    exact ⟨vs, h1, off_cut h0, h2, Reps.cut _ _ b h3⟩
theorem ObR.cut {a : Addr} {o : Ob} (b : o.below n = true) (h : ObR K m H a o) : ObR K (cutM n m) H a o := by
  cases o with
  | lst l =>
    obtain ⟨vs, h1, h2⟩ := h
    exact ⟨vs, h1, Reps.cut l vs b h2⟩
  | ins c ns l =>
    obtain ⟨dx, fs, h1, h2, h3⟩ := h
    exact ⟨dx, fs, h1, h2, Reps.cut l _ b h3⟩
  | dic l =>
    obtain ⟨o, xs, h1, h2, h3⟩ := h
    exact ⟨o, xs, h1, DicR.cut l xs b h2, h3⟩
  | dik l =>
    obtain ⟨kvs, h1, h2, h3⟩ := h
    exact ⟨kvs, h1, h2, Reps.cut _ _ b h3⟩
  | tab P q => exact h
  | err c fs =>
    obtain ⟨o, h1, h2, h3, h5, h4⟩ := h
    exact ⟨o, h1, h2, h3, h5, h4.cut b⟩
  | clo k L q ds =>
    obtain ⟨d, pm, ctv, cl, l, h1, h2, h3, h4, h5⟩ := h
    exact ⟨d, pm, ctv, cl, l, h1, h2, h3, fun p hp => ⟨(h4 p hp).1, off_cut (h4 p hp).2⟩, Reps.cut _ _ b h5⟩
  | fz => exact h
theorem Sim.cut {S : Sto} (s : Sim K m S H) (hb : ((S.take n).all (Ob.below n)) = true) : Sim K (cutM n m) (S.take n) H := by
  refine ⟨by simp [cutM, s.len], s.nd.sublist (List.take_sublist _ _), fun i a o h1 h2 => ?_, s.hid, fun a ha => s.dis a (List.mem_of_mem_take ha)⟩
  have hi : i < n := by
    have := (List.getElem?_eq_some_iff.mp h2).1
    rw [List.length_take] at this
    omega
  have h1 : (m.c.take n)[i]? = some a := h1
  rw [List.getElem?_take_of_lt hi] at h1
  refine ObR.cut (List.all_eq_true.mp hb o (List.mem_of_getElem? h2)) (s.cell i a o h1 ?_)
  rw [List.getElem?_take_of_lt hi] at h2
  exact h2
theorem Ext.cut {m' : Mp} {H' : Hp} (e : Ext m H m' H') (hn : m.c.length = n) : Ext m H (cutM n m') H' := by
  obtain ⟨ex, e1, hx⟩ := e.pre
  refine ⟨⟨[], ?_, by simp⟩, e.hs, e.trk, e.keep, e.tup, e.frz, e.cod⟩
  show m'.c.take n = m.c ++ []
  rw [e1, ← hn]; simp
def optAll (f : D → Option D) : List D → Option (List D)
  | [] => some []
  | d :: l => (f d).bind fun a => (optAll f l).map (a :: ·)
/-- a cell that is given back is frozen, with the cells in it -/
def frzF (n : Nat) (S : Sto) : Nat → D → Option D
  | f + 1, .ref i => if i < n then some (.ref i) else match S[i]? with
    | some (.lst l) => (optAll (frzF n S f) l).map .lst
    | some (.ins c ns l) => (optAll (frzF n S f) l).map (.obj c ns)
    | some (.dic l) => if belows n l = true then some (.dct l) else (optAll (frzF n S f) l).map .dct
    | some (.dik _) => none
    | some (.tab _ _) => none
    | some (.err _ _) => none
    | some (.clo _ _ _ _) => none
    | some .fz => none
    | none => none
  | _, d => if below n d = true then some d else none
def frzD (n : Nat) (S : Sto) (d : D) : Option D := frzF n S 3 d
theorem frz_plain {v : V} {d r : D} (h : Rep K m H v d) (q : (if below n d = true then some d else none) = some r) : Rep K (cutM n m) H v r := by
  by_cases b : below n d = true
  · rw [if_pos b] at q
    cases q
    exact Rep.cut d v b h
  · rw [if_neg b] at q; cases q
theorem frz_all {f : D → Option D} (hf : ∀ (v : V) (d r : D), Rep K m H v d → f d = some r → Rep K (cutM n m) H v r) : ∀ {vs : List V} {l rs : List D}, Reps K m H vs l → optAll f l = some rs → Reps K (cutM n m) H vs rs
  | [], [], rs, _, q => by cases q; exact .nil
  | [], _ :: _, _, h, _ => by cases h
  | _ :: _, [], _, h, _ => by cases h
  | v :: vs, d :: l, rs, h, q => by
    cases h with
    | cons h1 h2 =>
      obtain ⟨a, qa, q⟩ := Option.bind_eq_some_iff.mp q
      obtain ⟨b, qb, rfl⟩ := Option.map_eq_some_iff.mp q
      exact .cons (hf v d a h1 qa) (frz_all hf h2 qb)
theorem frz_dic {f : D → Option D} (hf : ∀ (v : V) (d r : D), Rep K m H v d → f d = some r → Rep K (cutM n m) H v r) (hk : ∀ (d r : D) (k : NestedKey), keyD d = some k → f d = some r → r = d) : ∀ {l rs : List D} {xs : List (NestedKey × Addr × Value)}, DicR K m H l xs → optAll f l = some rs → DicR K (cutM n m) H rs xs
  | [], rs, _, h, q => by cases h; cases q; exact .nil
  | [_], _, _, h, _ => by cases h
  | kd :: vd :: l, rs, _, h, q => by
    cases h with
    | cons a b c d r =>
      obtain ⟨x, qx, q1⟩ := Option.bind_eq_some_iff.mp (show ((f kd).bind fun a => (optAll f (vd :: l)).map (a :: ·)) = some rs from q)
      obtain ⟨zs, q2, e1⟩ := Option.map_eq_some_iff.mp q1
      obtain ⟨y, qy, q3⟩ := Option.bind_eq_some_iff.mp (show ((f vd).bind fun a => (optAll f l).map (a :: ·)) = some zs from q2)
      obtain ⟨ws, q4, e2⟩ := Option.map_eq_some_iff.mp q3
      have e := hk kd x _ a qx
      subst e1 e2 e
      exact .cons a (hf _ _ _ b qx) c (hf _ _ _ d qy) (frz_dic hf hk r q4)
theorem frz_key (n : Nat) (S : Sto) (f : Nat) (d r : D) (k : NestedKey) (h : keyD d = some k) (q : frzF n S f d = some r) : r = d := by
  have go : ∀ d : D, (∀ i, d ≠ .ref i) → frzF n S f d = some r → r = d := fun d hd q => by
    have e : frzF n S f d = if below n d = true then some d else none := by
      cases f with
      | zero => cases d <;> rfl
      | succ f => cases d <;> first | rfl | exact absurd rfl (hd _)
    rw [e] at q
    by_cases b : below n d = true
    · rw [if_pos b] at q; exact (Option.some.inj q).symm
    · rw [if_neg b] at q; cases q
  refine go d (fun i e => ?_) q
  subst e
  cases h
theorem frzF_ok {S : Sto} (s : Sim K m S H) : ∀ (f : Nat) (v : V) (d r : D), Rep K m H v d → frzF n S f d = some r → Rep K (cutM n m) H v r
  | 0, v, d, r, h, q => frz_plain h (by cases d <;> exact q)
  | f + 1, v, d, r, h, q => by
    cases d with
    | ref i =>
      simp only [frzF] at q
      by_cases hi : i < n
      · rw [if_pos hi] at q
        cases q
        exact Rep.cut (.ref i) v (by simpa [below] using hi) h
      · rw [if_neg hi] at q
        cases h with
        | ref h1 =>
          rename_i a
          have off : Off (cutM n m) a := by
            refine ⟨fun z => ?_, s.dis a (List.mem_of_getElem? h1)⟩
            obtain ⟨j, hj, ej⟩ := List.mem_iff_getElem.mp (show a ∈ m.c.take n from z)
            have hjn : j < n := by rw [List.length_take] at hj; omega
            have hjm : j < m.c.length := by rw [List.length_take] at hj; omega
            have e2 : m.c[j]? = some a := by
              rw [← List.getElem?_take_of_lt hjn, List.getElem?_eq_getElem hj, ej]
            have := (List.getElem?_inj hjm s.nd).mp (e2.trans h1.symm)
            omega
          cases qo : S[i]? with
          | none => rw [qo] at q; cases q
          | some o =>
            rw [qo] at q
            have c := s.cell i a o h1 qo
            cases o with
            | dic l =>
              obtain ⟨ob, xs, g1, g2, g3⟩ := c
              simp only at q
              by_cases b : belows n l = true
              · rw [if_pos b] at q
                cases q
                exact .dct g1 off (DicR.cut l xs b g2) g3
              · rw [if_neg b] at q
                obtain ⟨rs, qr, rfl⟩ := Option.map_eq_some_iff.mp q
                exact .dct g1 off (frz_dic (fun v d r => frzF_ok s f v d r) (fun d r k => frz_key n S f d r k) g2 qr) g3
            | dik l => cases q
            | tab _ _ => cases q
            | err _ _ => cases q
            | clo _ _ _ _ => cases q
            | fz => cases q
            | lst l =>
              obtain ⟨vs, g1, g2⟩ := c
              obtain ⟨rs, qr, rfl⟩ := Option.map_eq_some_iff.mp q
              exact .lst g1 off (frz_all (fun v d r => frzF_ok s f v d r) g2 qr)
            | ins c ns l =>
              obtain ⟨dx, fs, g1, g2, g3⟩ := c
              obtain ⟨rs, qr, rfl⟩ := Option.map_eq_some_iff.mp q
              exact .obj g1 off g2 (frz_all (fun v d r => frzF_ok s f v d r) g3 qr)
    | _ => exact frz_plain h q
theorem frz_ok {S : Sto} {v : V} {d r : D} (s : Sim K m S H) (h : Rep K m H v d) (q : frzD n S d = some r) : Rep K (cutM n m) H v r := frzF_ok s 3 v d r h q
def cutR (n : Nat) : Res D → Res D
  | .ok d S => if (S.take n).all (Ob.below n) = true then (match frzD n S d with
    | some d' => .ok d' (S.take n)
    | none => .stuck) else .stuck
  | .exc c fs S => if (S.take n).all (Ob.below n) = true ∧ belows n (fs.map (·.2)) = true then .exc c fs (S.take n) else .stuck
  | .stuck => .stuck
theorem PostG.cut {W : WX} {σ : L2.St} {r : Res D} {Q : VK} (hn : m.c.length = n) (h : PostG K W (Rep K) σ m H (cutR n r) Q) : PostG K W (Rep K) σ m H r Q := by
  cases r with
  | stuck => exact h
  | ok d S =>
    simp only [cutR] at h
    by_cases b : (S.take n).all (Ob.below n) = true
    · rw [if_pos b] at h
      cases q : frzD n S d with
      | none => simp only [q] at h; exact h.elim
      | some d' =>
        simp only [q] at h
        exact fun v m' H' e s r => h v (cutM n m') H' (e.cut hn) (s.cut b) (frz_ok s r q)
    · rw [if_neg b] at h; exact h.elim
  | exc c fs S =>
    simp only [cutR] at h
    by_cases b : (S.take n).all (Ob.below n) = true ∧ belows n (fs.map (·.2)) = true
    · rw [if_pos b] at h
      exact fun od m' H' e s x => h od (cutM n m') H' (e.cut hn) (s.cut b.1) (x.cut b.2)
    · rw [if_neg b] at h; exact h.elim
def scop (f : List D → Sto → Res D) : List D → Sto → Res D := fun ds S => cutR S.length (f ds S)
theorem sp_scop {k : Nat} {f : List D → Sto → Res D} {vs : List V} {Q : VK} {E : XK} (h : spOf K k (scop f) vs H Q E) : spOf K k f vs H Q E := by
  obtain ⟨hl, ds, S, m, r, s, h⟩ := h
  exact ⟨hl, ds, S, m, r, s, PostG.cut s.len h⟩
end
theorem fn_scop {P : Program} {w : World} {K : PySem.W.Frag} {mg : Str → Option Value} {base : Heap} {j k : Nat} {a : Addr} {fd : FuncData} {ps : List Str} {f : List D → Sto → Res D} (F : FnG P w K mg base j a fd ps (spOf K k f)) : FnG P w K mg base j a fd ps (spOf K k (scop f)) :=
  F.weak fun _ _ _ _ => sp_scop

/-! ### C(..), o.m(..), o.f = e -/
section
variable {X : Cx} {W : WX} {e o : Expr} {es : List Expr} {pos p apos : Pos} {mr : AM} {k n j : Nat} {f : Addr} {fd : FuncData} {ps : List Str} {fm : List D → Sto → Res D} {x c : Str} {ma mv : EM}
/-- a new instance; frz: it does not change any more -/
def mkD (c : Str) (frz : Bool) (fm : List D → Sto → Res D) (ds : List D) (S : Sto) : Res D := match fm (.ref S.length :: ds) (S ++ [.ins c [] []]) with
  | .ok .non S' => if frz = true then cutR S.length (.ok (.ref S.length) S') else .ok (.ref S.length) S'
  | .exc c fs S' => cutR S.length (.exc c fs S')
  | _ => .stuck
def mMake (c : Str) (frz : Bool) (n : Nat) (fm : List D → Sto → Res D) (mr : AM) : EM := fun en S => (mr en S).bind fun ds S1 => if ds.length = n then mkD c frz fm ds S1 else .stuck
theorem mk_to {m : Mp} {H : Hp} {σ : L2.St} {S : Sto} {vs : List V} {ds : List D} {Q : VK} {frz : Bool} (s : Sim X.K m S H) (r : Reps X.K m H vs ds) (h : Post X.K W σ m H (if ds.length = n then mkD c frz fm ds S else .stuck) Q) :
    ∀ x dx, H x = none → H dx = none → dx ≠ x → spOf X.K (n + 1) fm (.ref x :: vs) (upd (upd H dx (.own x)) x (.ins (He.ga X.K c) dx [])) (fun v H2 => v = .non ∧ Q (.ref x) H2) (WE W σ) := by
  intro x dx hx hdx hne
  by_cases hl : ds.length = n
  · rw [if_pos hl] at h
    have hx2 : (upd H dx (.own x)) x = none := by rw [upd_ne (Ne.symm hne)]; exact hx
    have e1 : Ext m H m (upd H dx (.own x)) := .new hdx
    have s1 := s.new (o := .own x) hdx
    have e2 : Ext m (upd H dx (.own x)) (m.add x) (upd (upd H dx (.own x)) x (.ins (He.ga X.K c) dx [])) := .cell hx2
    have s2 : Sim X.K (m.add x) (S ++ [.ins c [] []]) (upd (upd H dx (.own x)) x (.ins (He.ga X.K c) dx [])) := s1.grow hx2 ⟨dx, [], upd_same, rfl, .nil⟩
    have e12 := e1.trans e2
    refine ⟨by rw [List.length_cons, r.len, hl], .ref S.length :: ds, _, m.add x, .cons (.ref (s.last x)) (r.to e12), s2, ?_⟩
    unfold mkD at h
    cases q : fm (.ref S.length :: ds) (S ++ [.ins c [] []]) with
    | stuck => rw [q] at h; exact h
    | exc c' fs S' =>
      rw [q] at h
      have h' := PostG.cut s.len h
      exact fun od m' H' e' s' z => h' od m' H' (e12.trans e') s' z
    | ok d S' =>
      rw [q] at h
      intro v m' H' e' s' rv
      have e3 := e12.trans e'
      have at_ : m'.c[S.length]? = some x := by
        obtain ⟨ex, e4, _⟩ := e'.pre
        exact pre_at e4 (s.last x)
      cases rv with
      | non =>
        simp only at h
        refine ⟨rfl, ?_⟩
        cases frz with
        | true =>
          simp only [if_true] at h
          exact (PostG.cut s.len h) _ m' H' e3 s' (.ref at_)
        | false =>
          simp only [Bool.false_eq_true, if_false] at h
          exact h _ m' H' e3 s' (.ref at_)
      | _ => exact h.elim
  · rw [if_neg hl] at h; exact h.elim
theorem make_guards {A : Around} {C : Addr} {us : List Value} {kw : List (Str × Value)} : (A.under (.builtin "type.__call__" ⟨.ref C :: us, kw⟩)).guards = A.guards := by
  first | rfl | simp [Around.under, Code.guards, Code.isGuard, guardIds, pushGuards]
theorem run_mk {pins : List (Addr × Obj)} {σ : L2.St} {H : Hp} {s : Shared} {Q : VK} {us : List Value} {vs : List V} {kw : List (Str × Value)} {us0 : List Value} (B : Bd X W j) (M : Mk X.K (He.ga X.K c) f) (F : FnG X.prog X.w X.K X.mg X.base k f fd ps (spOf X.K (n + 1) fm)) (hk : k + 1 ≤ j)
    (I : Inv X pins σ H s) (r : Vals vs us) (hb : BindsTo { s with heap := (s.heap.push { cls := .type "dict", data := .dict #[] }).push (PySem.W.instObj (He.ga X.K c) s.heap.objs.size) } fd ⟨.ref (s.heap.objs.size + 1) :: us0, kw⟩ (ps.zip (.ref (s.heap.objs.size + 1) :: us)))
    (h : ∀ x dx, H x = none → H dx = none → dx ≠ x → spOf X.K (n + 1) fm (.ref x :: vs) (upd (upd H dx (.own x)) x (.ins (He.ga X.K c) dx [])) (fun v H2 => v = .non ∧ Q (.ref x) H2) (WE W σ)) :
    wpAny (model X.prog X.w) X.A (call (.ref (He.ga X.K c)) us0 kw) (EP X pins σ Q) X.xe s := by
  have hq := h (s.heap.objs.size + 1) s.heap.objs.size (I.hok.fresh (Nat.le_succ _)) (I.hok.fresh (Nat.le_refl _)) (Nat.ne_of_lt (Nat.lt_succ_self _))
  have I2 := Inv.made (C := He.ga X.K c) I
  have r1 : Vals (V.ref (s.heap.objs.size + 1) :: vs) (Value.ref (s.heap.objs.size + 1) :: us) := .cons rfl r
  refine wpAny_call (make_map (f := f) I.kIn M.makes M.init (beq_iff_eq.mp M.fn) (codeAny_mono (F.run _ X.stack _ _ ⟨Value.ref (s.heap.objs.size + 1) :: us0, kw⟩ (Value.ref (s.heap.objs.size + 1) :: us) _ _ (WE W σ) (make_guards.trans B.gd) ((B.room.mono hk).make _ us0 kw)
    (I2.env0.make _ us0 kw) hb r1 hq) fun r s' hq' => ?_))
  cases r with
  | error e => exact L2N.passAt B.tk σ pins _ _ e s' I2 hq'
  | ok fl =>
    cases fl with
    | ret u =>
      obtain ⟨v, H', I3, rv, ev, q3⟩ := I2.after hq'
      subst ev
      exact ⟨rv, ⟨V.ref (s.heap.objs.size + 1), H', I3, rfl, q3⟩⟩
    | next => exact False.elim hq'
    | brk => exact False.elim hq'
    | cont => exact False.elim hq'
theorem e_make {frz : Bool} (B : Bd X W j) (M : Mk X.K (He.ga X.K c) f) (F : FnG X.prog X.w X.K X.mg X.base k f fd ps (spOf X.K (n + 1) fm)) (hk : k + 1 ≤ j) (hg : Gl X c) (hm : X.mg c = some (.ref (He.ga X.K c))) (hb : Binds X.K fd ps [])
    (ha : PA X (e :: es) (tA X.K W mr)) (hdb : (c == ("__debug__" : Str)) = false := by decide) (he : starEach (e :: es) X.env = (false, eval e X.env) :: starEach es X.env := by rfl) (hpl : (backTo pos (starEach es X.env)).any (·.1) = false := by rfl) :
    PE X (.Call (.Name c p) (e :: es) [] pos) (tE X.K W (mMake c frz n fm mr)) := by
  refine ⟨fun pins s σ H Q I h => ?_⟩
  refine wpAny_Call_Name_kw (ld_glob I hg hm ?_ hdb)
  obtain ⟨en, S, m, er, si, h⟩ := h
  refine PySem.W.callWith_K (h₀ := X.base) I.ok.mod.kin M.kp (thn (ha.run pos pins s σ H (fun vs H1 => ∃ ds S1 m1, Ext m H m1 H1 ∧ Sim X.K m1 S1 H1 ∧ Reps X.K m1 H1 vs ds ∧ Post X.K W σ m1 H1 (if ds.length = n then mkD c frz fm ds S1 else .stuck) Q) I ⟨en, S, m, er, si, h.bind⟩) fun us s1 ⟨vs, H1, I1, r, ds, S1, m1, e1, sm, r1, h1⟩ => ⟨I1.kIn, ?_⟩) he hpl
  have hq := mk_to (X := X) (W := W) sm r1 h1
  refine run_mk B M F hk I1 r ?_ hq
  have I2 := Inv.made (C := He.ga X.K c) I1
  have hl : (Value.ref (s1.heap.objs.size + 1) :: us).length = ps.length := by
    have h5 := F.len _ _ _ _ (hq (s1.heap.objs.size + 1) s1.heap.objs.size (I1.hok.fresh (Nat.le_succ _)) (I1.hok.fresh (Nat.le_refl _)) (Nat.ne_of_lt (Nat.lt_succ_self _)))
    rw [← h5, List.length_cons, List.length_cons, r.length]
  have b := hb _ (Value.ref (s1.heap.objs.size + 1) :: us) I2.kIn (by rw [List.append_nil]; exact hl)
  rw [List.append_nil] at b
  exact b
/-! o.f = e -/
def putL (f : Str) (d : D) : List Str → List D → Option (List Str × List D)
  | [], [] => some ([f], [d])
  | g :: ns, c :: l => if g = f then some (g :: ns, d :: l) else (putL f d ns l).map fun r => (g :: r.1, c :: r.2)
  | _, _ => none
theorem put_ok {K : PySem.W.Frag} {m : Mp} {H : Hp} {f : Str} {v : V} {d : D} (rv : Rep K m H v d) : ∀ {fs : List (Str × V)} {ns : List Str} {ds : List D} {r : List Str × List D}, fs.map (·.1) = ns → Reps K m H (fs.map (·.2)) ds → putL f d ns ds = some r → (putF f v fs).map (·.1) = r.1 ∧ Reps K m H ((putF f v fs).map (·.2)) r.2
  | [], _, _, _, h1, h2, h3 => by
    subst h1
    cases h2
    cases h3
    exact ⟨rfl, .cons rv .nil⟩
  | (g, u) :: fs, ns, ds, r, h1, h2, h3 => by
    subst h1
    cases h2 with
    | cons r1 r2 =>
      rename_i c ds
      simp only [List.map_cons, putL] at h3
      by_cases hg : g = f
      · rw [if_pos hg] at h3
        cases h3
        simp only [putF, if_pos hg]
        exact ⟨rfl, .cons rv r2⟩
      · rw [if_neg hg] at h3
        cases q : putL f d (fs.map (·.1)) ds with
        | none => rw [q] at h3; cases h3
        | some r' =>
          rw [q] at h3
          cases h3
          obtain ⟨i1, i2⟩ := put_ok rv rfl r2 q
          simp only [putF, if_neg hg]
          exact ⟨by simp [i1], .cons r1 i2⟩
def sFldM (cs : List Str) (f : Str) (ma mv : EM) : SM := fun en S => eS (mv en S) en fun d S1 => eS (ma en S1) en fun o S2 => match o with
  | .ref i => (match S2[i]? with
    | some (.ins c ns l) => if c ∈ cs ∧ ns.length < 1000 then (match putL f d ns l with
      | some r => .next en (S2.set i (.ins c r.1 r.2))
      | none => .stuck) else .stuck
    | _ => .stuck)
  | _ => .stuck
theorem s_fld {cs : List Str} {fl : Str} {pos' : Pos} {v : Expr} (hc : ∀ c ∈ cs, Cls X.K (He.ga X.K c) ∧ NoAttr X.K (He.ga X.K c) fl) (ho : PE X o (tE X.K W ma)) (hv : PE X v (tE X.K W mv)) (hs : swapsWith v (some (.Attribute o fl pos')) pos.line X.env = pure false := by rfl) :
    PS X (.Assign [.Attribute o fl pos'] v pos) (tS X.K W (sFldM cs fl ma mv)) := by
  refine PS.imp (ps_fld ho hv hs) ?_
  rintro E σ H ⟨en, S, m, er, si, h⟩
  refine ⟨en, S, m, er, si, (eS_to er h).mono ?_⟩
  rintro y H1 ⟨d, S1, m1, e1, s1, r1, h1⟩
  refine ⟨en, S1, m1, er.to e1, s1, (eS_to (er.to e1) h1).mono ?_⟩
  rintro x H2 ⟨od, S2, m2, e2, s2, r2, h2⟩
  cases r2 with
  | ref hi =>
    rename_i a i
    simp only at h2
    cases q : S2[i]? with
    | none => simp only [q] at h2; exact h2.elim
    | some ob =>
      simp only [q] at h2
      cases ob with
      | dic kvs => exact h2.elim
      | dik kvs => exact h2.elim
      | tab _ _ => exact h2.elim
      | err _ _ => exact h2.elim
      | clo _ _ _ _ => exact h2.elim
      | fz => exact h2.elim
      | lst l => exact h2.elim
      | ins c ns l =>
        simp only at h2
        by_cases hcs : c ∈ cs ∧ ns.length < 1000
        · rw [if_pos hcs] at h2
          obtain ⟨dx, fs, g1, g2, g3⟩ := s2.cell i a _ hi q
          cases qp : putL fl d ns l with
          | none => simp only [qp] at h2; exact h2.elim
          | some r =>
            simp only [qp] at h2
            have e3 : Ext m2 H2 m2 (upd H2 a (.ins (He.ga X.K c) dx (putF fl y fs))) := Ext.put s2 (List.mem_of_getElem? hi) (nfz g1)
            obtain ⟨p1, p2⟩ := put_ok (r1.to e2) g2 g3 qp
            refine ⟨a, _, dx, fs, rfl, g1, (hc c hcs.1).1, (hc c hcs.1).2, by rw [← g2, List.length_map] at hcs; exact hcs.2, ?_⟩
            exact h2 σ m2 _ e3 (s2.put hi ⟨dx, _, upd_same, p1, p2.to e3⟩ (nfz g1)) (((er.to e1).to e2).to e3)
        · rw [if_neg hcs] at h2; exact h2.elim
  | _ => exact h2.elim
end
end Ag

namespace Ag
open PySem L2
/-! ### plain data -/
mutual
def D.py : D → Option PyData
  | .non => some .none
  | .bl b => some (.bool b)
  | .int i => some (.int i)
  | .str x => some (.str x)
  | .tup l => (D.pys l).map .tuple
  | .lst l => (D.pys l).map .list
  | .scr l => (D.pys l).map .list
  | _ => none
def D.pys : List D → Option (List PyData)
  | [] => some []
  | d :: l => match D.py d, D.pys l with
    | some p, some ps => some (p :: ps)
    | _, _ => none
end
def pyS (d : D) (S : Sto) : Option PyData := match d with
  | .ref i => (match S[i]? with
    | some (.lst l) => (D.pys l).map .list
    | _ => none)
  | d => d.py
section
variable {K : PySem.W.Frag} {m : Mp} {H : Hp}
mutual
theorem dp_of : ∀ (d : D) (v : V) (p : PyData), Rep K m H v d → d.py = some p → Dp K H v p
  | .non, v, p, h, e => by cases h; cases e; exact .non
  | .bl b, v, p, h, e => by cases h; cases e; exact .bl b
  | .int b, v, p, h, e => by cases h; cases e; exact .int b
  | .str b, v, p, h, e => by cases h; cases e; exact .str b
  | .ty b, v, p, h, e => by cases e
  | .gl b, v, p, h, e => by cases e
  | .ref i, v, p, h, e => by cases e
  | .obj c ns l, v, p, h, e => by cases e
  | .tup l, v, p, h, e => by
    cases h with
    | tup h1 hd h2 =>
      cases q : D.pys l with
      | none => simp only [D.py, q] at e; cases e
      | some ps =>
        simp only [D.py, q] at e
        cases e
        exact .tup h1 (dps_of l _ ps h2 q)
  | .lst l, v, p, h, e => by
    cases h with
    | lst h1 h2 h3 =>
      cases q : D.pys l with
      | none => simp only [D.py, q] at e; cases e
      | some ps =>
        simp only [D.py, q] at e
        cases e
        exact .lst (.inl (.inl h1)) (dps_of l _ ps h3 q)
  | .scr l, v, p, h, e => by
    cases h with
    | scr h1 h2 =>
      cases q : D.pys l with
      | none => simp only [D.py, q] at e; cases e
      | some ps =>
        simp only [D.py, q] at e
        cases e
        refine .lst ?_ (dps_of l _ ps h2 q)
        rcases h1 with ⟨o, h1⟩ | h1
        · exact .inl (.inr ⟨o, h1⟩)
        · exact h1 H
theorem dps_of : ∀ (ds : List D) (vs : List V) (ps : List PyData), Reps K m H vs ds → D.pys ds = some ps → DpAll K H vs ps
  | [], vs, ps, h, e => by cases h; cases e; exact .nil
  | d :: ds, vs, ps, h, e => by
    cases h with
    | cons h1 h2 =>
      simp only [D.pys] at e
      cases q1 : D.py d with
      | none => simp only [q1] at e; cases e
      | some p =>
        cases q2 : D.pys ds with
        | none => simp only [q1, q2] at e; cases e
        | some ps' =>
          simp only [q1, q2] at e
          cases e
          exact .cons (dp_of d _ p h1 q1) (dps_of ds _ ps' h2 q2)
end
theorem dpS_of {S : Sto} {d : D} {v : V} {p : PyData} (si : Sim K m S H) (h : Rep K m H v d) (e : pyS d S = some p) : Dp K H v p := by
  cases d with
  | ref i =>
    cases h with
    | ref h1 =>
      rename_i a
      simp only [pyS] at e
      cases q : S[i]? with
      | none => rw [q] at e; cases e
      | some o =>
        rw [q] at e
        cases o with
        | ins c ns l => cases e
        | dic kvs => cases e
        | dik kvs => cases e
        | tab _ _ => cases e
        | err _ _ => cases e
        | clo _ _ _ _ => cases e
        | fz => cases e
        | lst l =>
          obtain ⟨vs, h2, h3⟩ := si.cell i a _ h1 q
          cases q2 : D.pys l with
          | none => simp only [q2] at e; cases e
          | some ps =>
            simp only [q2] at e
            cases e
            exact .lst (.inl (.inl h2)) (dps_of l _ ps h3 q2)
  | _ => exact dp_of _ v p h e
end

/-! ### operators -/
def lstOf : D → Sto → Option (List D)
  | .lst l, _ => some l
  | .ref i, S => match S[i]? with
    | some (.lst l) => some l
    | _ => none
  | _, _ => none
theorem lst_at {K : PySem.W.Frag} {m : Mp} {H : Hp} {S : Sto} {v : V} {d : D} {l : List D} (si : Sim K m S H) (r : Rep K m H v d) (h : lstOf d S = some l) : ∃ a vs, v = .ref a ∧ H a = some (.lst vs) ∧ Reps K m H vs l := by
  have h2 : seqOf d S = some l := by
    cases d <;> first | exact h | cases h
  obtain ⟨a, vs, e, h3, h4⟩ := seq_at si r h2
  rcases h3 with ⟨_, h3⟩ | ⟨h3, _⟩
  · subst h3; cases h
  · exact ⟨a, vs, e, h3, h4⟩
def mulOk (i j : Int) : Bool := decide (i.natAbs < 2 ^ 64) || (decide (j.natAbs < 2 ^ 64) || decide (i.natAbs.log2 + j.natAbs.log2 < 1000000))
def divOk (j : Int) : Bool := decide (0 < j) && decide (j.natAbs.log2 < 9000)
def fAdd : D → D → Sto → Option D
  | .int i, .int j, _ => some (.int (i + j))
  | .str a, .str b, _ => if a.length + b.length ≤ lineN then some (.str (a ++ b)) else none
  | .tup a, .tup b, _ => if a.length + b.length ≤ lineN then some (.tup (a ++ b)) else none
  | x, y, S => match lstOf x S, lstOf y S with
    | some a, some b => if a.length + b.length ≤ lineN then some (.lst (a ++ b)) else none
    | _, _ => none
def fSub : D → D → Sto → Option D
  | .int i, .int j, _ => some (.int (i - j))
  | _, _, _ => none
def fMul : D → D → Sto → Option D
  | .int i, .int j, _ => if mulOk i j = true then some (.int (i * j)) else none
  | .tup a, .int k, _ => if a ≠ [] ∧ 1 ≤ k ∧ k ≤ 1000 ∧ a.length ≤ 1000 ∧ (k = 1 ∨ names (List.replicate k.toNat a).flatten = false) then some (.tup (List.replicate k.toNat a).flatten) else none
  | x, .int k, S => match lstOf x S with
    | some a => if 0 ≤ k ∧ k ≤ 1000 ∧ a.length ≤ 1000 then some (.lst (List.replicate k.toNat a).flatten) else none
    | none => none
  | _, _, _ => none
def fDiv : D → D → Sto → Option D
  | .int i, .int j, _ => if divOk j = true then some (.int (i / j)) else none
  | _, _, _ => none
def fMod : D → D → Sto → Option D
  | .int i, .int j, _ => if 0 < j then some (.int (i % j)) else none
  | _, _, _ => none
def fPow : D → D → Sto → Option D
  | .int i, .int j, _ => if 0 ≤ j ∧ j ≤ 1000 ∧ i.natAbs < 2 ^ 64 then some (.int (i ^ j.toNat)) else none
  | _, _, _ => none
def fNeg : D → Sto → Option D
  | .int i, _ => some (.int (-i))
  | _, _ => none
section
variable {X : Cx}
/-- t + u: new where neither is empty -/
theorem op_catF : OpR X (binaryOp .Add) (fun x y H Q => ∃ a b xs ys, x = .ref a ∧ y = .ref b ∧ SqT X.K H a xs ∧ SqT X.K H b ys ∧ xs.length + ys.length ≤ sizeLine ∧
    (xs = [] → Q (.ref b) H) ∧ (xs ≠ [] → ys = [] → Q (.ref a) H) ∧ (xs ≠ [] → ys ≠ [] → ∀ p o, H p = none → o.dict = none → Q (.ref p) (upd H p (.frz o (.tup (xs ++ ys)))))) := by
  rintro pins s σ H x y v u Q I rx ry ⟨a, b, xs, ys, rfl, rfl, ha, hb, hz, q0, q1, q2⟩
  by_cases both : xs ≠ [] ∧ ys ≠ []
  · cases rx; cases ry
    obtain ⟨us, r, pa, _⟩ := I.tuple ha
    obtain ⟨ws, t, pb, _⟩ := I.tuple hb
    have nu : us ≠ [] := fun z => both.1 (r.nil_iff.mp z)
    have nw : ws ≠ [] := fun z => both.2 (t.nil_iff.mp z)
    exact HT.cat_tup pa pb nu (fun z => absurd z nw) (fun _ => newTup I (r.append t) (by rw [List.length_append]; exact hz) (q2 both.1 both.2)) (by rw [← r.length, ← t.length]; exact hz)
  · refine op_catA pins s σ H _ _ v u Q I rx ry ⟨a, b, xs, ys, rfl, rfl, ha, hb, hz, q0, q1, fun h1 h2 => absurd ⟨h1, h2⟩ both⟩
theorem o_add : OpR X (binaryOp .Add) (rO2 X.K fAdd) := by
  intro pins s σ H x y v u Q I rx ry ⟨d, e, S, m, r, si, hx, hy, hf, hq⟩
  have lists : ∀ l1 l2, lstOf d S = some l1 → lstOf e S = some l2 → (if l1.length + l2.length ≤ lineN then some (.lst (l1 ++ l2)) else none) = some r → wpAny (model X.prog X.w) X.A (binaryOp .Add v u) (EP X pins σ Q) X.xe s := fun l1 l2 q1 q2 hf => by
    by_cases hl : l1.length + l2.length ≤ lineN
    · rw [if_pos hl] at hf
      cases hf
      obtain ⟨a, vs, rfl, h1, h2⟩ := lst_at si hx q1
      obtain ⟨b, us, rfl, h3, h4⟩ := lst_at si hy q2
      exact op_cat pins s σ H _ _ v u Q I rx ry ⟨a, b, vs, us, rfl, rfl, h1, h3, by rw [h2.len, h4.len, ← line_eq]; exact hl, fun p hp => hq _ _ (.new hp) (si.new hp) (.lst upd_same (si.off hp) ((h2.app h4).to (.new hp)))⟩
    · rw [if_neg hl] at hf; cases hf
  unfold fAdd at hf
  split at hf
  · cases hx; cases hy; cases hf
    exact op_add pins s σ H _ _ v u Q I rx ry ⟨_, _, rfl, rfl, hq _ H .refl si (.int _)⟩
  · rename_i a b
    by_cases hl : a.length + b.length ≤ lineN
    · rw [if_pos hl] at hf
      cases hx; cases hy; cases hf
      exact op_add_str pins s σ H _ _ v u Q I rx ry ⟨_, _, rfl, rfl, by rw [← line_eq]; exact hl, hq _ H .refl si (.str _)⟩
    · rw [if_neg hl] at hf; cases hf
  · rename_i a b
    by_cases hl : a.length + b.length ≤ lineN
    · rw [if_pos hl] at hf
      cases hf
      cases hx with
      | tup h1 hd h2 =>
        cases hy with
        | tup h3 hd3 h4 =>
          refine op_catF pins s σ H _ _ v u Q I rx ry ⟨_, _, _, _, rfl, rfl, h1, h3, by rw [h2.len, h4.len, ← line_eq]; exact hl, fun e0 => ?_, fun _ e0 => ?_, fun _ _ p o hp ho => ?_⟩
          · subst e0
            cases h2
            exact hq _ H .refl si (.tup h3 hd3 h4)
          · subst e0
            cases h4
            rw [List.append_nil] at hq
            exact hq _ H .refl si (.tup h1 hd h2)
          · exact hq _ _ (.new hp) (si.new hp) (tupF ho ((h2.app h4).to (.new hp)))
    · rw [if_neg hl] at hf; cases hf
  · cases q1 : lstOf d S with
    | none => rw [q1] at hf; cases hf
    | some l1 =>
      cases q2 : lstOf e S with
      | none => rw [q1, q2] at hf; cases hf
      | some l2 =>
        rw [q1, q2] at hf
        exact lists l1 l2 q1 q2 hf
theorem o_sub : OpR X (binaryOp .Sub) (rO2 X.K fSub) := by
  intro pins s σ H x y v u Q I rx ry ⟨d, e, S, m, r, si, hx, hy, hf, hq⟩
  unfold fSub at hf
  split at hf
  · cases hx; cases hy; cases hf
    exact op_sub pins s σ H _ _ v u Q I rx ry ⟨_, _, rfl, rfl, hq _ H .refl si (.int _)⟩
  · cases hf
/-- a tuple once: itself -/
theorem mul_self (l : Addr) (its : Array Value) (n : Nat) (dd : Option Addr) (sl : Array (Option Value)) (u : Tok) :
    Meets (Builtin.«tuple.__mul__» ⟨[.ref l, .int 1 u], []⟩) (fun _ R s => s.heap.get? l = some { cls := .type "tuple", dict := dd, data := .seq its n, slots := sl } ∧ R (.ok (.ret (Value.ref l))) s) :=
  .of_wp fun prog w A R s h => by
    obtain ⟨hp, g, d, tk, os⟩ := s
    obtain ⟨hl, h⟩ := h
    have i1 := AutoSeq1.idx_int
    wp_walk using wpAny_loadPart' hl
    exact ⟨_, rfl, h⟩
theorem op_once : OpR X (binaryOp .Mult) (fun x y H Q => ∃ l xs, x = .ref l ∧ y = .int 1 ∧ SqT X.K H l xs ∧ Q (.ref l) H) := by
  intro pins s σ H x y v u Q I rx ry ⟨l, xs, ex, ey, sq, q⟩
  subst ex ey
  cases rx
  obtain ⟨t, rfl⟩ := ry
  obtain ⟨its, r, ⟨⟨cls, dd, data, sl⟩, ho, hc, n, hd⟩, hs⟩ := I.tuple sq
  simp only at hc hd
  subst hc hd
  have ti : s.TypeIs (.ref l) "tuple" := ⟨_, ho, rfl⟩
  refine wpAny_binaryOp_repeat_ref (T := "tuple") (U := "int") (by decide) ti (fun z => typeIs_int z 1 t) noFill_tuple_mul F.fills_int_mul F.slot_int_rmul repeat_tuple F.slot_int_index.lookup ?_
  refine call_meets F.slot_int_rmul (typeIs_int s 1 t) F.entry_int_rmul (F.args_int_rmul_2 _ _) (int_rmul_tuple 1 t l its.toArray n dd sl) ⟨ho, rfl, ti, ?_⟩
  exact call_meets F.slot_tuple_mul ti F.entry_tuple_mul (F.args_tuple_mul_2 _ _) (mul_self l its.toArray n dd sl t) ⟨ho, ⟨.ref l, H, I, rfl, q⟩⟩
theorem o_mul : OpR X (binaryOp .Mult) (rO2 X.K fMul) := by
  intro pins s σ H x y v u Q I rx ry ⟨d, e, S, m, r, si, hx, hy, hf, hq⟩
  unfold fMul at hf
  split at hf
  · rename_i i j
    by_cases hl : mulOk i j = true
    · rw [if_pos hl] at hf
      cases hx; cases hy; cases hf
      have fin := hq _ H .refl si (.int (i * j))
      unfold mulOk at hl
      simp only [Bool.or_eq_true, decide_eq_true_eq] at hl
      rcases hl with h | h | h
      · exact op_mul pins s σ H _ _ v u Q I rx ry ⟨_, _, rfl, rfl, .inl ⟨by omega, by omega⟩, fin⟩
      · exact op_mul pins s σ H _ _ v u Q I rx ry ⟨_, _, rfl, rfl, .inr ⟨by omega, by omega⟩, fin⟩
      · exact op_mulW pins s σ H _ _ v u Q I rx ry ⟨_, _, rfl, rfl, h, fin⟩
    · rw [if_neg hl] at hf; cases hf
  · rename_i a k
    by_cases hl : a ≠ [] ∧ 1 ≤ k ∧ k ≤ 1000 ∧ a.length ≤ 1000 ∧ (k = 1 ∨ names (List.replicate k.toNat a).flatten = false)
    · rw [if_pos hl] at hf
      cases hf; cases hy
      cases hx with
      | tup h1 hd h2 =>
        by_cases h11 : k = 1
        · subst h11
          have e1 : (List.replicate (1 : Int).toNat a).flatten = a := by simp
          rw [e1] at hq
          exact op_once pins s σ H _ _ v u Q I rx ry ⟨_, _, rfl, rfl, h1, hq _ H .refl si (.tup h1 hd h2)⟩
        refine op_repT pins s σ H _ _ v u Q I rx ry ⟨_, _, _, rfl, rfl, h1, ?_, by omega, hl.2.2.1, by rw [h2.len]; exact hl.2.2.2.1, fun p hp => ?_⟩
        · intro z; subst z; cases h2; exact hl.1 rfl
        · exact hq _ _ (.new hp) (si.new hp) (.tup (.inl (.inl upd_same)) (fun z => by rcases hl.2.2.2.2 with y | y; exact absurd y h11; rw [y] at z; cases z) ((h2.flatten _).to (.new hp)))
    · rw [if_neg hl] at hf; cases hf
  · rename_i k _ _
    cases q : lstOf d S with
    | none => rw [q] at hf; cases hf
    | some a =>
      simp only [q] at hf
      by_cases hl : 0 ≤ k ∧ k ≤ 1000 ∧ a.length ≤ 1000
      · rw [if_pos hl] at hf
        cases hf; cases hy
        obtain ⟨b, vs, rfl, h1, h2⟩ := lst_at si hx q
        refine op_rep pins s σ H _ _ v u Q I rx ry ⟨b, k, vs, rfl, rfl, h1, by omega, by omega, ?_, fun p hp => ?_⟩
        · rw [h2.len, ← line_eq]
          have : k.toNat ≤ 1000 := by omega
          have := Nat.mul_le_mul hl.2.2 this
          unfold lineN
          omega
        · exact hq _ _ (.new hp) (si.new hp) (.lst upd_same (si.off hp) ((h2.flatten _).to (.new hp)))
      · rw [if_neg hl] at hf; cases hf
  · cases hf
theorem o_div : OpR X (binaryOp .FloorDiv) (rO2 X.K fDiv) := by
  intro pins s σ H x y v u Q I rx ry ⟨d, e, S, m, r, si, hx, hy, hf, hq⟩
  unfold fDiv at hf
  split at hf
  · rename_i i j
    by_cases hl : divOk j = true
    · rw [if_pos hl] at hf
      cases hx; cases hy; cases hf
      unfold divOk at hl
      simp only [Bool.and_eq_true, decide_eq_true_eq] at hl
      exact op_fdivW pins s σ H _ _ v u Q I rx ry ⟨_, _, rfl, rfl, hl, hq _ H .refl si (.int _)⟩
    · rw [if_neg hl] at hf; cases hf
  · cases hf
theorem o_mod : OpR X (binaryOp .Mod) (rO2 X.K fMod) := by
  intro pins s σ H x y v u Q I rx ry ⟨d, e, S, m, r, si, hx, hy, hf, hq⟩
  unfold fMod at hf
  split at hf
  · rename_i i j
    by_cases hl : 0 < j
    · rw [if_pos hl] at hf
      cases hx; cases hy; cases hf
      exact op_mod pins s σ H _ _ v u Q I rx ry ⟨_, _, rfl, rfl, hl, hq _ H .refl si (.int _)⟩
    · rw [if_neg hl] at hf; cases hf
  · cases hf
theorem o_pow : OpR X (binaryOp .Pow) (rO2 X.K fPow) := by
  intro pins s σ H x y v u Q I rx ry ⟨d, e, S, m, r, si, hx, hy, hf, hq⟩
  unfold fPow at hf
  split at hf
  · rename_i i j
    by_cases hl : 0 ≤ j ∧ j ≤ 1000 ∧ i.natAbs < 2 ^ 64
    · rw [if_pos hl] at hf
      cases hx; cases hy; cases hf
      exact op_pow pins s σ H _ _ v u Q I rx ry ⟨_, _, rfl, rfl, ⟨hl.1, by omega, hl.2.2⟩, hq _ H .refl si (.int _)⟩
    · rw [if_neg hl] at hf; cases hf
  · cases hf
theorem u_neg : UnR X (unaryOp .USub) (rO1 X.K fNeg) := by
  intro pins s σ H x v Q I rx ⟨d, S, m, r, si, hx, hf, hq⟩
  unfold fNeg at hf
  split at hf
  · cases hx; cases hf
    exact un_neg pins s σ H _ v Q I rx ⟨_, rfl, hq _ H .refl si (.int _)⟩
  · cases hf

/-! comparisons -/
def cmpI (p : Int → Int → Bool) : D → D → Sto → Option D
  | .int i, .int j, _ => some (.bl (p i j))
  | _, _, _ => none
abbrev fLt := cmpI fun i j => decide (i < j)
abbrev fLe := cmpI fun i j => decide (i ≤ j)
abbrev fGt := cmpI fun i j => decide (j < i)
abbrev fGe := cmpI fun i j => decide (j ≤ i)
theorem o_cmpI {op : CmpOp} {p : Int → Int → Bool} (h : OpR X (compareOp op) (rI0 fun i j => .bl (p i j))) : OpR X (compareOp op) (rO2 X.K (cmpI p)) := by
  intro pins s σ H x y v u Q I rx ry ⟨d, e, S, m, r, si, hx, hy, hf, hq⟩
  unfold cmpI at hf
  split at hf
  · cases hx; cases hy; cases hf
    exact h pins s σ H _ _ v u Q I rx ry ⟨_, _, rfl, rfl, hq _ H .refl si (.bl _)⟩
  · cases hf
theorem o_lt : OpR X (compareOp .Lt) (rO2 X.K fLt) := o_cmpI op_lt
theorem o_le : OpR X (compareOp .LtE) (rO2 X.K fLe) := o_cmpI op_le
theorem o_gt : OpR X (compareOp .Gt) (rO2 X.K fGt) := o_cmpI op_gt
theorem o_ge : OpR X (compareOp .GtE) (rO2 X.K fGe) := o_cmpI op_ge
def eqD (x y : D) (S : Sto) : Option D := match pyS x S, pyS y S with
  | some p, some q => if SeqAt.shaped p = true ∧ SeqAt.shaped q = true then some (.bl (PyData.eqv p q)) else none
  | _, _ => none
def neD (x y : D) (S : Sto) : Option D := match pyS x S, pyS y S with
  | some p, some q => if SeqAt.shaped p = true ∧ SeqAt.shaped q = true then some (.bl (!PyData.eqv p q)) else none
  | _, _ => none
def fEq : D → D → Sto → Option D
  | .str a, .str b, _ => some (.bl (decide (a = b)))
  | x, y, S => eqD x y S
def fNe : D → D → Sto → Option D
  | .str a, .str b, _ => some (.bl (!decide (a = b)))
  | x, y, S => neD x y S
theorem dec_str {a b : Str} : decide (V.str a = V.str b) = decide (a = b) := by
  by_cases h : a = b <;> simp [h]
theorem o_eq (hu : X.A.units + 64 < cLine) : OpR X (compareOp .Eq) (rO2 X.K fEq) := by
  intro pins s σ H x y v u Q I rx ry ⟨d, e, S, m, r, si, hx, hy, hf, hq⟩
  unfold fEq at hf
  split at hf
  · cases hx; cases hy; cases hf
    refine op_eq pins s σ H _ _ v u Q I rx ry ⟨rfl, ?_⟩
    rw [dec_str]
    exact hq _ H .refl si (.bl _)
  unfold eqD at hf
  split at hf
  · rename_i p q q1 q2
    by_cases hl : SeqAt.shaped p = true ∧ SeqAt.shaped q = true
    · rw [if_pos hl] at hf
      cases hf
      exact op_eqD hu pins s σ H _ _ v u Q I rx ry ⟨p, q, dpS_of si hx q1, dpS_of si hy q2, hl.1, hl.2, hq _ H .refl si (.bl _)⟩
    · rw [if_neg hl] at hf; cases hf
  · cases hf
theorem o_ne (hu : X.A.units + 64 < cLine) : OpR X (compareOp .NotEq) (rO2 X.K fNe) := by
  intro pins s σ H x y v u Q I rx ry ⟨d, e, S, m, r, si, hx, hy, hf, hq⟩
  unfold fNe at hf
  split at hf
  · cases hx; cases hy; cases hf
    refine op_ne pins s σ H _ _ v u Q I rx ry ⟨rfl, ?_⟩
    rw [dec_str]
    exact hq _ H .refl si (.bl _)
  unfold neD at hf
  split at hf
  · rename_i p q q1 q2
    by_cases hl : SeqAt.shaped p = true ∧ SeqAt.shaped q = true
    · rw [if_pos hl] at hf
      cases hf
      exact op_neD hu pins s σ H _ _ v u Q I rx ry ⟨p, q, dpS_of si hx q1, dpS_of si hy q2, hl.1, hl.2, hq _ H .refl si (.bl _)⟩
    · rw [if_neg hl] at hf; cases hf
  · cases hf
def isNon : D → Bool
  | .non => true
  | _ => false
def fIs : D → D → Sto → Option D
  | d, .non, _ => some (.bl (isNon d))
  | .bl a, .bl b, _ => some (.bl (a == b))
  | _, _, _ => none
def fIsNot : D → D → Sto → Option D
  | d, .non, _ => some (.bl (!isNon d))
  | .bl a, .bl b, _ => some (.bl (!(a == b)))
  | _, _, _ => none
/-- x in y: a sign in a text, data in a tuple or list -/
def inD (x y : D) (S : Sto) : Option Bool := match x, y with
  | .str a, .str z => if a.cps.size = 1 then some (decide (a.cps.getD 0 0 ∈ z.cps.toList)) else none
  | x, y => match pyS x S, pyS y S with
    | some p, some (.tuple qs) => if SeqAt.shaped p = true ∧ SeqAt.shaped (.tuple qs) = true then some (qs.any fun z => PyData.eqv z p) else none
    | some p, some (.list qs) => if SeqAt.shaped p = true ∧ SeqAt.shaped (.list qs) = true then some (qs.any fun z => PyData.eqv z p) else none
    | _, _ => none
def fIn (x y : D) (S : Sto) : Option D := (inD x y S).map .bl
def fNotIn (x y : D) (S : Sto) : Option D := (inD x y S).map fun b => .bl (!b)
theorem sign_of {a : Str} (h : a.cps.size = 1) : a = ⟨#[a.cps.getD 0 0]⟩ := by
  obtain ⟨⟨l⟩⟩ := a
  match l, h with
  | [c], _ => rfl
theorem o_in (hu : X.A.units + 65 < cLine) : OpR X (compareOp .In) (rO2 X.K fIn) := by
  intro pins s σ H x y v u Q I rx ry ⟨d, e, S, m, r, si, hx, hy, hf, hq⟩
  unfold fIn at hf
  cases qi : inD d e S with
  | none => rw [qi] at hf; cases hf
  | some b =>
    rw [qi] at hf
    cases hf
    have fin := hq _ H .refl si (.bl b)
    unfold inD at qi
    split at qi
    · rename_i a z
      by_cases ha : a.cps.size = 1
      · rw [if_pos ha] at qi
        cases qi
        cases hx; cases hy
        exact op_in_sign pins s σ H _ _ v u Q I rx ry ⟨a.cps.getD 0 0, z, congrArg V.str (sign_of ha), rfl, fin⟩
      · rw [if_neg ha] at qi; cases qi
    · split at qi
      · rename_i p qs q1 q2
        by_cases hl : SeqAt.shaped p = true ∧ SeqAt.shaped (.tuple qs) = true
        · rw [if_pos hl] at qi
          cases qi
          obtain ⟨as, r1⟩ := Dp.reads I p x v (dpS_of si hx q1) rx
          obtain ⟨bs, r2⟩ := Dp.reads I (.tuple qs) y u (dpS_of si hy q2) ry
          exact SeqAt.in_tuple_reads r2 r1 (by have := SeqAt.canLay_of_shaped hl.2; simpa only [PyData.canLay0] using this) (SeqAt.canLay_of_shaped hl.1) (PyProof.Rows.room_in_shaped hl.1 hu) ⟨.bl _, H, I, rfl, fin⟩
        · rw [if_neg hl] at qi; cases qi
      · rename_i p qs q1 q2
        by_cases hl : SeqAt.shaped p = true ∧ SeqAt.shaped (.list qs) = true
        · rw [if_pos hl] at qi
          cases qi
          exact op_inD hu pins s σ H _ _ v u Q I rx ry ⟨p, qs, dpS_of si hx q1, dpS_of si hy q2, hl.1, hl.2, fin⟩
        · rw [if_neg hl] at qi; cases qi
      · cases qi
theorem o_notin (hu : X.A.units + 65 < cLine) : OpR X (compareOp .NotIn) (rO2 X.K fNotIn) := by
  intro pins s σ H x y v u Q I rx ry ⟨d, e, S, m, r, si, hx, hy, hf, hq⟩
  unfold fNotIn at hf
  cases qi : inD d e S with
  | none => rw [qi] at hf; cases hf
  | some b =>
    rw [qi] at hf
    cases hf
    have fin := hq _ H .refl si (.bl (!b))
    unfold inD at qi
    split at qi
    · rename_i a z
      by_cases ha : a.cps.size = 1
      · rw [if_pos ha] at qi
        cases qi
        cases hx; cases hy
        exact op_notIn_sign pins s σ H _ _ v u Q I rx ry ⟨a.cps.getD 0 0, z, congrArg V.str (sign_of ha), rfl, fin⟩
      · rw [if_neg ha] at qi; cases qi
    · split at qi
      · rename_i p qs q1 q2
        by_cases hl : SeqAt.shaped p = true ∧ SeqAt.shaped (.tuple qs) = true
        · rw [if_pos hl] at qi
          cases qi
          obtain ⟨as, r1⟩ := Dp.reads I p x v (dpS_of si hx q1) rx
          obtain ⟨bs, r2⟩ := Dp.reads I (.tuple qs) y u (dpS_of si hy q2) ry
          exact SeqAt.notIn_tuple_reads r2 r1 (by have := SeqAt.canLay_of_shaped hl.2; simpa only [PyData.canLay0] using this) (SeqAt.canLay_of_shaped hl.1) (PyProof.Rows.room_in_shaped hl.1 hu) ⟨.bl _, H, I, rfl, fin⟩
        · rw [if_neg hl] at qi; cases qi
      · rename_i p qs q1 q2
        by_cases hl : SeqAt.shaped p = true ∧ SeqAt.shaped (.list qs) = true
        · rw [if_pos hl] at qi
          cases qi
          exact op_notInD hu pins s σ H _ _ v u Q I rx ry ⟨p, qs, dpS_of si hx q1, dpS_of si hy q2, hl.1, hl.2, fin⟩
        · rw [if_neg hl] at qi; cases qi
      · cases qi
end
end Ag

namespace Ag
open PySem L2
/-! ### enumerate of a tuple -/
def IteT (K : PySem.W.Frag) (a : Addr) : L2.It where
  go := fun i H => ∃ (xs : List V) (x : V), SqT K H a xs ∧ xs[i]? = some x
  yld := fun i H v H' => ∃ T x, v = .ref T ∧ H T = none ∧ H' = upd H T (.tup [.int (i : Nat), x]) ∧ ∀ xs, SqT K H a xs → xs[i]? = some x
  stop := fun i H => ∃ xs : List V, SqT K H a xs ∧ xs.length ≤ i
/-- an enumerate object over a tuple that is through -/
theorem enumT_end {prog : Program} {w : World} {A : Around} {E : Value → Shared → Prop} {s : Shared} {e it t : Addr} {i : Nat} {xs : Array Value} {k : Int} {old : Value} {Q : Option Value → Shared → Prop} (calm : A.handled = none) (he : IsEnum s.heap e it k old) (hi : s.heap.IsTupleIter it t i) (ht : s.heap.IsTuple t xs) (hx : xs.size ≤ i)
    (fin : ∀ g, Heap.ExtBut it s.heap g → Q none { s with heap := g }) : wpAny (model prog w) A (pyNext (.ref e)) Q E s := by
  have ty : s.TypeIs (.ref e) "enumerate" := ⟨_, he, rfl⟩
  unfold pyNext
  refine wpAny_bind (wpAny_attempt (wpAny_callSpecial?_slot (name := Str.ofString "__next__") ty F.slot_enumerate_next (wpAny_call_entry F.slot_enumerate_next ty F.entry_enumerate_next ?_ (F.args_enumerate_next_1 _))))
  refine (show wpAny _ _ (field (.ref e) 2 >>= _) _ _ s from wpAny_bind (wpAny_field he rfl (x := .ref it) rfl (wpAny_bind (wpAny_nextOf_tuple_end (A := A.in1) calm hi ht (Array.getElem?_eq_none hx) ?_))))
  rintro g x eg ⟨ob, ho, hc⟩
  exact wpAny_bind (wpAny_isInstance (T := "StopIteration") (b := true) ⟨ob, ho, hc⟩ isSubtype_stop (wpAny_pure (fin g eg)))
/-- where an enumerate object e with its tuple iterator it stands after i turns -/
def EnAt (e it a : Addr) (i : Nat) (h : Heap) : Prop := (∃ old, IsEnum h e it ((i : Nat) : Int) old) ∧ h.IsTupleIter it a i ∧ e ≠ it
theorem EnAt.lt {e it a : Addr} {i : Nat} {s : Shared} (st : EnAt e it a i s.heap) : ∀ b ∈ [e, it], b < s.heap.objs.size := by
  obtain ⟨⟨_, he⟩, ⟨_, hi, _⟩, _⟩ := st
  intro b hb
  simp only [List.mem_cons, List.not_mem_nil, or_false] at hb
  rcases hb with rfl | rfl
  · exact Heap.lt_size he
  · exact Heap.lt_size hi
theorem EnAt.apart {e it a : Addr} {i : Nat} {s : Shared} {xs : Array Value} (st : EnAt e it a i s.heap) (p : PyProof.Rows.IsTup s.heap a xs) : e ≠ a ∧ a ≠ it := by
  obtain ⟨⟨_, he⟩, ⟨_, hi, ci, _⟩, _⟩ := st
  obtain ⟨_, ha, ca, _⟩ := p
  refine ⟨?_, ?_⟩ <;> rintro rfl
  · have q := he.symm.trans ha
    cases q
    have c2 : Value.type "enumerate" = Value.type "tuple" := ca
    exact absurd (Value.type.inj c2) (by decide)
  · rw [ha] at hi; cases hi
    rw [ca] at ci
    exact absurd (Value.type.inj ci) (by decide)
theorem enumT_turn {P : Program} {w : World} {K : PySem.W.Frag} {elts : List Expr} {kk : Nat} {tpos : Pos} (a e it : Addr) : Turn P w K (.Tuple elts kk tpos) (IteT K a) [e, it] e (EnAt e it a) where
  mem := List.mem_cons_self
  obj := by
    rintro i h ⟨⟨_, he⟩, ⟨o, ho, _, hd⟩, _⟩ b hb
    simp only [List.mem_cons, List.not_mem_nil, or_false] at hb
    rcases hb with rfl | rfl
    · exact ⟨_, he, by rintro _ ⟨⟩⟩
    · exact ⟨o, ho, fun _ q => by rw [hd] at q; cases q⟩
  keep := by
    rintro i h g ⟨⟨old, he⟩, hi, ne⟩ k
    exact ⟨⟨old, k _ (by simp) _ he⟩, hi.at fun o q => k _ (by simp) o q, ne⟩
  item := by
    rintro X rfl rfl rfl calm i pins s σ H E I fr st ⟨ys, y, sq, hy⟩
    have lts := st.lt
    obtain ⟨its, rs, p, _⟩ := I.tuple sq
    obtain ⟨nea, nia⟩ := st.apart p
    obtain ⟨⟨_, he⟩, hi, ne⟩ := st
    obtain ⟨u, hu, ru⟩ := rs.get hy
    have inb : i < its.toArray.size := by simpa using (List.getElem?_eq_some_iff.mp hu).1
    refine wpAny_pyNext_enum_itemC (Draws.tuple (A := X.A.in1) (show X.A.in1.handled = none from I.ok.hd calm) it a nia its.toArray) he (show _ ∧ _ from ⟨hi, p⟩) inb ne (by simp [ne, nea]) ?_
    intro u' g tk hu' eg hi' pair _ same
    obtain rfl : u' = u := by
      have h2 : its.toArray[i]? = some u := by simpa using hu
      exact Option.some.inj (hu'.symm.trans h2)
    refine ⟨_, rfl, wpAny_letOwnedTupleGo_enum (s := { s with heap := g, toks := tk + 1 }) eg ?_⟩
    intro g2 he2 sb
    have top := (sb.2 _ (Nat.ne_of_gt (lts e (by simp)))).trans pair
    have kept : ∀ b ob, b ∉ [e, it] → s.heap.get? b = some ob → g2.get? b = some ob := fun b ob nb q => by
      have n1 : b ≠ e := fun z => nb (by simp [z])
      have n2 : b ≠ it := fun z => nb (by simp [z])
      exact (sb.2 b n1).trans (same b ob (by simpa using n1) (by simpa using n2) q)
    have J := I.turnedNew (t' := tk + 1) (ch := [e, it]) (ob := .tup [.int (i : Nat), y]) kept fr (Nat.le_refl _) ⟨(by decide : 2 ≤ sizeLine), [.int i tk, u'], .cons ⟨_, rfl⟩ (.cons ru .nil), ⟨_, top, rfl, _, rfl⟩⟩
    refine ⟨.ref s.heap.objs.size, _, J, rfl, ⟨_, y, rfl, I.hok.fresh (Nat.le_refl _), rfl, fun zs hz => (I.tuple_inj hz sq).symm ▸ hy⟩, ⟨⟨u', ?_⟩, hi'.1.at fun o q => (sb.2 it (Ne.symm ne)).trans q, ne⟩, fun b hb => ?_⟩
    · simpa using he2
    · rw [upd_ne (Nat.ne_of_lt (lts b hb))]
      exact (fr b hb).1
  done := by
    rintro X rfl rfl rfl calm i pins s σ H E I fr ⟨⟨_, he⟩, hi, _⟩ ⟨ys, sq, hy⟩
    obtain ⟨its, rs, p, _⟩ := I.tuple sq
    obtain ⟨f0, f1, _, f3, f4, f5⟩ := fr it (by simp)
    have over : its.toArray.size ≤ i := by rw [List.size_toArray, ← rs.length]; exact hy
    exact enumT_end (I.ok.hd calm) he hi p over fun g eb => ⟨rfl, I.turned (t' := s.toks) (fun b o nb q => eb b o nb q) f0 f1 f3 f4 f5⟩
  self := by
    rintro A i s Q E ⟨⟨_, he⟩, _⟩ h
    exact wpAny_pyIter_enum he h
set_option maxHeartbeats 1000000 in
theorem enum1_new {v : Value} {o : Obj} {Hh : Heap → Prop} (B : Begins v o Hh) :
    Meets (Builtin.«enumerate.__new__» ⟨[.type "enumerate", v], []⟩) (fun _ R s => Hh s.heap ∧
      R (.ok (.ret (.ref (s.heap.push o).objs.size))) { s with heap := (s.heap.push o).push { cls := .type "enumerate", data := .fields #[.none, .bool false, .ref s.heap.objs.size, rawInt 0, .none, .none] } }) :=
  .of_wp fun prog w A R s h => by
    obtain ⟨hp, g, d, tk, os⟩ := s
    obtain ⟨h1, h⟩ := h
    have hsub := sub_enumerate
    have q1 : ∀ {A' : Around} {E : Value → Shared → Prop} {Q : Value → Shared → Prop}, Q (.ref hp.objs.size) ⟨hp.push o, g, d, tk, os⟩ → wpAny (model prog w) A' (pyIter v) Q E ⟨hp, g, d, tk, os⟩ := fun q => B.iter prog w _ _ ⟨hp, g, d, tk, os⟩ _ h1 q
    wp_walk using q1
    refine wpAny_stack_any fun st => wpAny_pure ?_
    split
    · rename_i c _ _ _ _ _
      cases (c == Value.type "enumerate") <;> (wp_walk using q1; exact ⟨_, rfl, h⟩)
    · wp_walk using q1
      exact ⟨_, rfl, h⟩
theorem enum1_call {prog : Program} {w : World} {A : Around} {E : Value → Shared → Prop} {s : Shared} {v : Value} {o : Obj} {Hh : Heap → Prop} {Q : Value → Shared → Prop} (B : Begins v o Hh) (h1 : Hh s.heap)
    (h : ∀ h', IsEnum h' (s.heap.objs.size + 1) s.heap.objs.size 0 .none → h'.get? s.heap.objs.size = some o → (∀ b o, s.heap.get? b = some o → h'.get? b = some o) → Q (.ref (s.heap.objs.size + 1)) { s with heap := h' }) :
    wpAny (model prog w) A (call (.type "enumerate") [v]) Q E s := by
  refine callType_new F.called_enumerate (by decide) (F.typeCall_enumerate_1 _) (F.newCall_enumerate_1 _) (fun obj => F.args_object_init_2 obj _) F.entry_enumerate_new (enum1_new B) ⟨h1, ?_⟩
  have hz : (s.heap.push o).objs.size = s.heap.objs.size + 1 := Heap.size_push ..
  show _ ∧ _
  rw [hz]
  have he : IsEnum ((s.heap.push o).push { cls := .type "enumerate", data := .fields #[.none, .bool false, .ref s.heap.objs.size, rawInt 0, .none, .none] }) (s.heap.objs.size + 1) s.heap.objs.size 0 .none := by
    have := Heap.get?_push_size (s.heap.push o) (o := { cls := .type "enumerate", data := .fields #[.none, .bool false, .ref s.heap.objs.size, rawInt 0, .none, .none] }) rfl
    rw [hz] at this; exact this
  exact ⟨⟨_, he, rfl⟩, h _ he (Heap.get?_push_of_some _ (Heap.get?_push_size _ B.free)) fun b o x => Heap.get?_push_of_some _ (Heap.get?_push_of_some _ x)⟩
def iEnumT (K : PySem.W.Frag) (ta : TA) : TI := fun σ H R => ta σ H fun vs H1 => ∃ a xs, vs = [.ref a] ∧ SqT K H1 a xs ∧ R (IteT K a) H1
theorem pi_enumT {X : Cx} {e : Expr} {ta : TA} {p pos tpos : Pos} {elts : List Expr} {kk : Nat} (hg : Gl X "enumerate") (hm : X.mg "enumerate" = none) (ha : PA X [e] ta) (hs : starEach [e] X.env = [(false, eval e X.env)] := by rfl) :
    PI X (.Tuple elts kk tpos) (.Call (.Name "enumerate" p) [e] [] pos) (iEnumT X.K ta) := by
  constructor
  intro pins s σ H R I h
  refine PyProof.Rows.Call_ (ld_blt I hg hm PyProof.Rows.boot_enumerate (PyProof.Rows.callWith_type1 (thn (ha.run pos pins s σ H _ I h) ?_) hs rfl))
  rintro us s1 ⟨_, H1, J, rs, a, xs, rfl, sq, q⟩
  obtain ⟨_, rfl, r⟩ := vals1 rs
  cases r
  obtain ⟨its, _, tp, _⟩ := J.tuple sq
  refine enum1_call (begins_tuple a its.toArray) tp fun g he hi kept => wpAny_pyIter_enum he ?_
  refine ⟨s1.heap.objs.size + 1, [s1.heap.objs.size + 1, s1.heap.objs.size], _, _, H1, rfl, J.kept (t' := s1.toks) (h' := g) kept, enumT_turn a (s1.heap.objs.size + 1) s1.heap.objs.size, ⟨⟨.none, he⟩, ⟨_, hi, rfl, rfl⟩, Nat.succ_ne_self _⟩, fun b hb => ?_, q⟩
  have le : s1.heap.objs.size ≤ b := by
    simp only [List.mem_cons, List.not_mem_nil, or_false] at hb
    rcases hb with rfl | rfl
    · exact Nat.le_succ _
    · exact Nat.le_refl _
  exact J.fpOk le (J.hok.fresh le)

/-! ### zip of a tuple and a list -/
/-- the tuple at a and the list at b, as they stand at each turn -/
def ItzM (K : PySem.W.Frag) (a b : Addr) : L2.It where
  go := fun i H => ∃ (xs ys : List V) (x y : V), (SqT K H a xs ∧ xs[i]? = some x) ∧ SqL K H b ys ∧ ys[i]? = some y
  yld := fun i H v H' => ∃ x y T, (∀ xs, SqT K H a xs → xs[i]? = some x) ∧ (∀ ys, SqL K H b ys → ys[i]? = some y) ∧ v = .ref T ∧ H T = none ∧ H' = upd H T (.tup [x, y])
  stop := fun i H => ∃ xs ys : List V, (SqT K H a xs ∧ SqL K H b ys) ∧ (xs.length ≤ i ∨ ys.length ≤ i)
/-- an iterator as it stands at turn i over items that are known -/
structure At {P : Program} {w : World} {A : Around} (it l i : Nat) (its : List Value) (h : Heap) (n : Nat) (G : Nat → Value → Prop) (St : Nat → Heap → Prop) (R : Nat → Heap → Prop) : Prop where
  dr : Draws P w A it [it, l] n G St
  here : St i h
  on : ∀ j g, St j g → R j g
  val : ∀ v, G i v → its[i]? = some v
  le : i ≤ n
  more : i < its.length → i < n
  end_ : its.length ≤ i → i = n
theorem atT {P : Program} {w : World} {A : Around} {it l i : Nat} {its : List Value} {h : Heap} (calm : A.handled = none) (ne : l ≠ it) (hi : h.IsTupleIter it l i) (hl : h.IsTuple l its.toArray) :
    ∃ n G St, At (P := P) (w := w) (A := A) it l i its h n G St fun j g => g.IsTupleIter it l j := by
  by_cases c : i < its.length
  · exact ⟨_, _, _, Draws.tuple calm it l ne its.toArray, ⟨hi, hl⟩, fun _ _ q => q.1, fun v q => by simpa using q, by simpa using Nat.le_of_lt c, fun _ => by simpa using c, fun q => absurd c (Nat.not_lt.mpr q)⟩
  · refine ⟨i, fun _ _ => False, fun j g => j = i ∧ g.IsTupleIter it l j ∧ g.IsTuple l its.toArray, ⟨?_, ?_, ?_, ?_⟩, ⟨rfl, hi, hl⟩, fun _ _ q => q.2.1, fun _ q => q.elim, Nat.le_refl _, fun q => absurd q c, fun _ => rfl⟩
    · rintro j g ⟨_, ⟨o, e, _⟩, _⟩
      exact ⟨o, e⟩
    · rintro j g g' ⟨e, a1, a2⟩ k
      exact ⟨e, a1.at fun o q => k it (by simp) o q, a2.at fun o q => k l (by simp) o q⟩
    · rintro j s Q E q ⟨e, _⟩
      exact absurd e (Nat.ne_of_lt q)
    · rintro s Q E ⟨_, a1, a2⟩ fin
      exact wpAny_nextOf_tuple_end calm a1 a2 (by simpa using Nat.not_lt.mp c) fin
theorem atL {P : Program} {w : World} {A : Around} {it l i : Nat} {its : List Value} {h : Heap} (calm : A.handled = none) (ne : l ≠ it) (hi : h.IsListIter it l i) (hl : h.IsList l its.toArray) :
    ∃ n G St, At (P := P) (w := w) (A := A) it l i its h n G St fun j g => g.IsListIter it l j := by
  by_cases c : i < its.length
  · exact ⟨_, _, _, Draws.list calm it l ne its.toArray, ⟨hi, hl⟩, fun _ _ q => q.1, fun v q => by simpa using q, by simpa using Nat.le_of_lt c, fun _ => by simpa using c, fun q => absurd c (Nat.not_lt.mpr q)⟩
  · refine ⟨i, fun _ _ => False, fun j g => j = i ∧ g.IsListIter it l j ∧ g.IsList l its.toArray, ⟨?_, ?_, ?_, ?_⟩, ⟨rfl, hi, hl⟩, fun _ _ q => q.2.1, fun _ q => q.elim, Nat.le_refl _, fun q => absurd q c, fun _ => rfl⟩
    · rintro j g ⟨_, ⟨o, e, _⟩, _⟩
      exact ⟨o, e⟩
    · rintro j g g' ⟨e, a1, a2⟩ k
      exact ⟨e, a1.at fun o q => k it (by simp) o q, a2.at fun o q => k l (by simp) o q⟩
    · rintro j s Q E q ⟨e, _⟩
      exact absurd e (Nat.ne_of_lt q)
    · rintro s Q E ⟨_, a1, a2⟩ fin
      exact wpAny_nextOf_list_end calm a1 a2 (by simpa using Nat.not_lt.mp c) fin
theorem sepM {z TI TO i1 i2 a b : Addr} (D : ZipApart z TI TO i1 i2 a b) : ZipSep2 z TI TO i1 i2 [i1, a] [i2, b] where
  TIz := D.TIz
  TOz := D.TOz
  TITO := D.TITO
  TIi1 := D.TIi1
  TIi2 := D.TIi2
  mem1 := by simp
  mem2 := by simp
  zf1 := by simp [D.i1z.symm, D.l1z.symm]
  zf2 := by simp [D.i2z.symm, D.l2z.symm]
  Tf1 := by simp [D.TOi1, D.l1TO.symm]
  Tf2 := by simp [D.TOi2, D.l2TO.symm]
  sep1_2 := by simp [D.i12, D.l2i1.symm]
  sep2_1 := by simp [D.i12.symm, D.l1i2.symm]
/-- where the zip object z stands after i turns -/
structure ZmAt (z TI TO i1 i2 a b : Addr) (i : Nat) (h : Heap) : Prop where
  zip : IsZip h z TI TO .none
  its : IsTupOf2 h TI (.ref i1) (.ref i2)
  out : ∃ x y, IsTupOf2 h TO x y
  one : h.IsTupleIter i1 a i
  two : h.IsListIter i2 b i
theorem ZmAt.ob {z TI TO i1 i2 a b : Addr} {i : Nat} {h : Heap} (st : ZmAt z TI TO i1 i2 a b i h) : ∀ c ∈ [z, TI, TO, i1, i2], ∃ o, h.get? c = some o ∧ ∀ v, o.data ≠ .cell v := by
  obtain ⟨e1, e2, ⟨_, _, e3⟩, ⟨o4, e4, _, d4⟩, ⟨o5, e5, _, d5⟩⟩ := st
  intro c hc
  simp only [List.mem_cons, List.not_mem_nil, or_false] at hc
  rcases hc with rfl | rfl | rfl | rfl | rfl
  · exact ⟨_, e1, by rintro _ ⟨⟩⟩
  · exact ⟨_, e2, by rintro _ ⟨⟩⟩
  · exact ⟨_, e3, by rintro _ ⟨⟩⟩
  · exact ⟨o4, e4, fun _ q => by rw [d4] at q; cases q⟩
  · exact ⟨o5, e5, fun _ q => by rw [d5] at q; cases q⟩
theorem mz_turn {P : Program} {w : World} {K : PySem.W.Frag} {elts : List Expr} {kk : Nat} {tpos : Pos} {a b z TI TO i1 i2 : Addr} (D : ZipApart z TI TO i1 i2 a b) : Turn P w K (.Tuple elts kk tpos) (ItzM K a b) [z, TI, TO, i1, i2] z (ZmAt z TI TO i1 i2 a b) where
  mem := List.mem_cons_self
  obj := fun i h st => st.ob
  keep := by
    rintro i h g ⟨e1, e2, ⟨x, y, e3⟩, e4, e5⟩ k
    exact ⟨k _ (by simp) _ e1, k _ (by simp) _ e2, ⟨x, y, k _ (by simp) _ e3⟩, e4.at fun o q => k _ (by simp) o q, e5.at fun o q => k _ (by simp) o q⟩
  item := by
    rintro X rfl rfl rfl calm i pins s σ H E I fr st ⟨xs, ys, x, y, ⟨sx, hx⟩, sy, hy⟩
    have lts : ∀ c ∈ [z, TI, TO, i1, i2], c < s.heap.objs.size := fun c hc => let ⟨_, e, _⟩ := st.ob c hc; Heap.lt_size e
    obtain ⟨us, ru, pu, _⟩ := I.tuple sx
    obtain ⟨vs, rv, pv, _⟩ := I.list sy
    obtain ⟨u, hu, rx⟩ := ru.get hx
    obtain ⟨v, hv, ry⟩ := rv.get hy
    obtain ⟨hz, hi, ⟨x0, y0, ho⟩, h1, h2⟩ := st
    have hd : X.A.in1.handled = none := I.ok.hd calm
    obtain ⟨n1, G1, S1, T1⟩ := atT (P := X.prog) (w := X.w) hd D.l1i1 h1 pu
    obtain ⟨n2, G2, S2, T2⟩ := atL (P := X.prog) (w := X.w) hd D.l2i2 h2 pv.isList
    refine wpAny_pyNext_zipD2_item (sepM D) T1.dr T2.dr hz hi ho T1.here T2.here (T1.more (List.getElem?_eq_some_iff.mp hu).1) (T2.more (List.getElem?_eq_some_iff.mp hv).1) ?_
    intro u' v' g tk gu gv zg og s1 s2 pg _ same
    obtain rfl : u' = u := Option.some.inj ((T1.val _ gu).symm.trans hu)
    obtain rfl : v' = v := Option.some.inj ((T2.val _ gv).symm.trans hv)
    refine ⟨_, rfl, wpAny_letOwnedTupleGo_zip (s := { s with heap := g, toks := tk }) zg ?_⟩
    intro g2 z2 sb
    have off : ∀ c ∈ [TI, TO, i1, i2], c ≠ z := by
      intro c hc
      simp only [List.mem_cons, List.not_mem_nil, or_false] at hc
      rcases hc with rfl | rfl | rfl | rfl
      · exact D.TIz
      · exact D.TOz
      · exact D.i1z
      · exact D.i2z
    have top : g2.get? s.heap.objs.size = _ := (sb.2 _ (Nat.ne_of_gt (lts z (by simp)))).trans pg
    have kept : ∀ c ob, c ∉ [z, TI, TO, i1, i2] → s.heap.get? c = some ob → g2.get? c = some ob := by
      intro c ob nc q
      simp only [List.mem_cons, List.not_mem_nil, or_false, not_or] at nc
      exact (sb.2 c nc.1).trans (same c ob nc.1 nc.2.2.1 nc.2.2.2.1 nc.2.2.2.2 q)
    refine ⟨.ref s.heap.objs.size, _, I.turnedNew (t' := tk) (T := s.heap.objs.size) (ob := .tup [x, y]) kept fr (Nat.le_refl _) ⟨by show 2 ≤ sizeLine; decide, [_, _], .cons rx (.cons ry .nil), ⟨_, top, rfl, _, rfl⟩⟩, rfl, ?_, ?_, ?_⟩
    · exact ⟨x, y, _, fun l q => by rw [I.tuple_inj q sx]; exact hx, fun l q => by rw [I.list_inj q sy]; exact hy, rfl, I.hok.fresh (Nat.le_refl _), rfl⟩
    · refine ⟨z2, ?_, ⟨_, _, (sb.2 _ D.TOz).trans og⟩, (T1.on _ _ s1).at fun o q => (sb.2 _ D.i1z).trans q, (T2.on _ _ s2).at fun o q => (sb.2 _ D.i2z).trans q⟩
      exact (sb.2 _ D.TIz).trans (same _ _ D.TIz D.TITO D.TIi1 D.TIi2 hi)
    · intro c hc
      rw [upd_ne (Nat.ne_of_lt (lts c hc))]
      exact (fr c hc).1
  done := by
    rintro X rfl rfl rfl calm i pins s σ H E I fr ⟨hz, hi, ⟨x0, y0, ho⟩, h1, h2⟩ ⟨xs, ys, ⟨sx, sy⟩, en⟩
    obtain ⟨us, ru, pu, _⟩ := I.tuple sx
    obtain ⟨vs, rv, pv, _⟩ := I.list sy
    have hd : X.A.in1.handled = none := I.ok.hd calm
    obtain ⟨n1, G1, S1, T1⟩ := atT (P := X.prog) (w := X.w) hd D.l1i1 h1 pu
    obtain ⟨n2, G2, S2, T2⟩ := atL (P := X.prog) (w := X.w) hd D.l2i2 h2 pv.isList
    refine wpAny_pyNext_zipD2_end (sepM D) T1.dr T2.dr hz hi ho T1.here T2.here T1.le T2.le (en.imp (fun q => T1.end_ (by rw [← ru.length]; exact q)) fun q => T2.end_ (by rw [← rv.length]; exact q)) ?_
    intro g tk same
    refine ⟨rfl, I.turnedL (t' := tk) (ch := [z, TI, TO, i1, i2]) ?_ fr⟩
    intro c ob nc q
    simp only [List.mem_cons, List.not_mem_nil, or_false, not_or] at nc
    exact same c ob nc.1 nc.2.2.1 nc.2.2.2.1 nc.2.2.2.2 q
  self := fun A i s Q E st h => wpAny_pyIter_zip st.zip h
def iZipM (K : PySem.W.Frag) (ta : TA) : TI := fun σ H R => ta σ H fun vs H1 => ∃ a b xs ys, vs = [.ref a, .ref b] ∧ SqT K H1 a xs ∧ SqL K H1 b ys ∧ R (ItzM K a b) H1
theorem pi_zipM {X : Cx} {e e2 : Expr} {ta : TA} {p pos tpos : Pos} {elts : List Expr} {kk : Nat} (hg : Gl X "zip") (hm : X.mg "zip" = none) (ha : PA X [e, e2] ta)
    (hs : starEach [e, e2] X.env = (false, eval e X.env) :: starEach [e2] X.env := by rfl) (hpl : (backTo pos (starEach [e2] X.env)).any (·.1) = false := by rfl) : PI X (.Tuple elts kk tpos) (.Call (.Name "zip" p) [e, e2] [] pos) (iZipM X.K ta) := by
  constructor
  intro pins s σ H R I h
  refine PyProof.Rows.Call_ (ld_blt I hg hm PyProof.Rows.boot_zip (PyProof.Rows.callWith_type1 (thn (ha.run pos pins s σ H _ I h) ?_) hs hpl))
  rintro us s1 ⟨_, H1, J, rs, a, b, xs, ys, rfl, sx, sy, q⟩
  cases rs with
  | cons r1 rs =>
  cases rs with
  | cons r2 rs =>
  cases rs
  cases r1
  cases r2
  obtain ⟨its, _, tp, _⟩ := J.tuple sx
  obtain ⟨jts, _, lp, _⟩ := J.list sy
  have la : a < s1.heap.objs.size := by
    obtain ⟨_, e1, _⟩ := id tp
    exact Heap.lt_size e1
  refine zip_begins2 (begins_tuple a its.toArray) (begins_list b jts.toArray) tp lp.isList fun g hz hi ho g1 g2 _ kept => wpAny_pyIter_zip hz ?_
  refine ⟨s1.heap.objs.size + 4, [s1.heap.objs.size + 4, s1.heap.objs.size + 2, s1.heap.objs.size + 3, s1.heap.objs.size, s1.heap.objs.size + 1], _, _, H1, rfl, J.kept (t' := s1.toks) (h' := g) kept, mz_turn (PySem.W.ktu_apart s1.heap.objs.size a b la lp.lt), ⟨hz, hi, ⟨_, _, ho⟩, ⟨_, g1, rfl, rfl⟩, ⟨_, g2, rfl, rfl⟩⟩, fun c hc => ?_, q⟩
  have le : s1.heap.objs.size ≤ c := by
    simp only [List.mem_cons, List.not_mem_nil, or_false] at hc
    rcases hc with rfl | rfl | rfl | rfl | rfl
    · exact Nat.le_add_right _ 4
    · exact Nat.le_add_right _ 2
    · exact Nat.le_add_right _ 3
    · exact Nat.le_refl _
    · exact Nat.le_add_right _ 1
  exact J.fpOk le (J.hok.fresh le)

/-! ### what is walked -/
def lsIt (l : List D) : ItD := ⟨fun k _ => some l[k]?, l.length⟩
def itOf : D → Sto → Option ItD
  | .tup l, _ => some (lsIt l)
  | .lst l, _ => some (lsIt l)
  | .scr l, _ => some (lsIt l)
  | .str x, _ => some (lsIt (x.cps.toList.map fun c => .str ⟨#[c]⟩))
  | .ref i, S => match S[i]? with
    | some (.lst l) => some ⟨fun k S' => match S'[i]? with
      | some (.lst l') => some l'[k]?
      | _ => none, l.length⟩
    | _ => none
  | _, _ => none
section
variable {K : PySem.W.Frag} {m : Mp} {H : Hp}
theorem wk_tup {a : Addr} {vs : List V} {l : List D} (h1 : SqT K H a vs) (h2 : Reps K m H vs l) : WalkD K m H (Itt K a) (lsIt l).nxt := by
  intro m' S' H' e s k
  have q1 := SqT.ext e h1
  have q2 := h2.tr e
  show match some l[k]? with | none => True | some none => _ | some (some d) => _
  cases q : l[k]? with
  | none => exact ⟨vs, q1, by rw [q2.len]; exact List.getElem?_eq_none_iff.mp q⟩
  | some d =>
    obtain ⟨v, h3, h4⟩ := q2.get q
    refine ⟨⟨vs, v, q1, h3⟩, fun x H'' ⟨e1, y⟩ => ?_⟩
    subst e1
    have := y vs q1
    rw [h3] at this; cases this
    exact ⟨.refl, s, h4⟩
theorem wk_lst {a : Addr} {vs : List V} {l : List D} (h1 : ∀ m' H', Tr m H m' H' → SqL K H' a vs) (h2 : Reps K m H vs l) : WalkD K m H (Itl K a) (lsIt l).nxt := by
  intro m' S' H' e s k
  have q1 := h1 m' H' e
  have q2 := h2.tr e
  show match some l[k]? with | none => True | some none => _ | some (some d) => _
  cases q : l[k]? with
  | none => exact ⟨vs, q1, by rw [q2.len]; exact List.getElem?_eq_none_iff.mp q⟩
  | some d =>
    obtain ⟨v, h3, h4⟩ := q2.get q
    refine ⟨⟨vs, v, q1, h3⟩, fun x H'' ⟨e1, y⟩ => ?_⟩
    subst e1
    have := y vs q1
    rw [h3] at this; cases this
    exact ⟨.refl, s, h4⟩
theorem wk_cell {a : Addr} {i : Nat} (h1 : m.c[i]? = some a) : WalkD K m H (Itl K a) (fun k S' => match S'[i]? with | some (.lst l') => some l'[k]? | _ => none) := by
  intro m' S' H' e s k
  obtain ⟨ex, e1, _⟩ := e.pre
  have h2 := pre_at e1 h1
  show match (match S'[i]? with | some (.lst l') => some l'[k]? | _ => none) with | none => True | some none => _ | some (some d) => _
  cases q : S'[i]? with
  | none => trivial
  | some o =>
    cases o with
    | ins c ns l => trivial
    | dic kvs => trivial
    | dik kvs => trivial
    | tab _ _ => trivial
    | err _ _ => trivial
    | clo _ _ _ _ => trivial
    | fz => trivial
    | lst l =>
      obtain ⟨vs, h3, h4⟩ := s.cell i a _ h2 q
      have q1 : SqL K H' a vs := .inl (.inl h3)
      show match some l[k]? with | none => True | some none => _ | some (some d) => _
      cases q2 : l[k]? with
      | none => exact ⟨vs, q1, by rw [h4.len]; exact List.getElem?_eq_none_iff.mp q2⟩
      | some d =>
        obtain ⟨v, h5, h6⟩ := h4.get q2
        refine ⟨⟨vs, v, q1, h5⟩, fun x H'' ⟨e1, y⟩ => ?_⟩
        subst e1
        have := y vs q1
        rw [h5] at this; cases this
        exact ⟨.refl, s, h6⟩
theorem wk_str {x : Str} : WalkD K m H (Its x) (lsIt (x.cps.toList.map fun c => .str ⟨#[c]⟩)).nxt := by
  intro m' S' H' e s k
  show match some (x.cps.toList.map fun c => D.str ⟨#[c]⟩)[k]? with | none => True | some none => _ | some (some d) => _
  rw [List.getElem?_map]
  cases q : x.cps.toList[k]? with
  | none =>
    have := List.getElem?_eq_none_iff.mp q
    show x.cps.size ≤ k
    simpa using this
  | some c =>
    have := (List.getElem?_eq_some_iff.mp q).1
    refine ⟨by show k < x.cps.size; simpa using this, fun v H'' ⟨e1, c', hc, hv⟩ => ?_⟩
    subst e1 hv
    have e2 : c' = c := by
      have h2 : x.cps.toList[k]? = some c' := by simpa using hc
      rw [q] at h2; exact (Option.some.inj h2).symm
    subst e2
    exact ⟨.refl, s, .str _⟩
def rgIt (lo : Int) (n : Nat) : ItD := ⟨fun k _ => some (if k < n then some (.int (lo + k)) else none), n⟩
theorem wk_rng {lo : Int} {n : Nat} : WalkD K m H (Itr lo n) (rgIt lo n).nxt := by
  intro m' S' H' e s k
  show match some (if k < n then some (D.int (lo + k)) else none) with | none => True | some none => _ | some (some d) => _
  by_cases h : k < n
  · rw [if_pos h]
    refine ⟨h, fun v H'' ⟨e1, hv⟩ => ?_⟩
    subst e1 hv
    exact ⟨.refl, s, .int _⟩
  · rw [if_neg h]
    exact Nat.not_lt.mp h
/-- pairs that are made anew at each turn -/
theorem new_pair {S : Sto} {T : Addr} {x y : V} {d c : D} (hn : names [d, c] = false) (s : Sim K m S H) (hT : H T = none) (r1 : Rep K m H x d) (r2 : Rep K m H y c) : Ext m H m (upd H T (.tup [x, y])) ∧ Sim K m S (upd H T (.tup [x, y])) ∧ Rep K m (upd H T (.tup [x, y])) (.ref T) (.tup [d, c]) :=
  ⟨.new hT, s.new hT, .tup (.inl (.inl upd_same)) (fun z => by rw [hn] at z; cases z) (.cons (r1.to (.new hT)) (.cons (r2.to (.new hT)) .nil))⟩
def enIt (l : List D) : ItD := ⟨fun k _ => some (l[k]?.map fun d => .tup [.int k, d]), l.length⟩
theorem wk_enT {a : Addr} {vs : List V} {l : List D} (h1 : SqT K H a vs) (h2 : Reps K m H vs l) : WalkD K m H (IteT K a) (enIt l).nxt := by
  intro m' S' H' e s k
  have q1 := SqT.ext e h1
  have q2 := h2.tr e
  show match some (l[k]?.map fun d => D.tup [.int k, d]) with | none => True | some none => _ | some (some d) => _
  cases q : l[k]? with
  | none => exact ⟨vs, q1, by rw [q2.len]; exact List.getElem?_eq_none_iff.mp q⟩
  | some d =>
    obtain ⟨v, h3, h4⟩ := q2.get q
    refine ⟨⟨vs, v, q1, h3⟩, fun x H'' ⟨T, y, e0, hT, e1, hy⟩ => ?_⟩
    subst e0 e1
    have := hy vs q1
    rw [h3] at this; cases this
    exact new_pair rfl s hT (.int _) h4
theorem wk_enL {a : Addr} {vs : List V} {l : List D} (h1 : ∀ m' H', Tr m H m' H' → SqL K H' a vs) (h2 : Reps K m H vs l) : WalkD K m H (Ite K a) (enIt l).nxt := by
  intro m' S' H' e s k
  have q1 := h1 m' H' e
  have q2 := h2.tr e
  show match some (l[k]?.map fun d => D.tup [.int k, d]) with | none => True | some none => _ | some (some d) => _
  cases q : l[k]? with
  | none => exact ⟨vs, q1, by rw [q2.len]; exact List.getElem?_eq_none_iff.mp q⟩
  | some d =>
    obtain ⟨v, h3, h4⟩ := q2.get q
    refine ⟨⟨vs, v, q1, h3⟩, fun x H'' ⟨T, y, e0, hT, e1, hy⟩ => ?_⟩
    subst e0 e1
    have := hy vs q1
    rw [h3] at this; cases this
    exact new_pair rfl s hT (.int _) h4
def zpIt (l r : List D) : ItD := ⟨fun k _ => match l[k]?, r[k]? with | some d, some c => if names [d, c] = true then none else some (some (.tup [d, c])) | _, _ => some none, min l.length r.length⟩
theorem wk_zpT {a b : Addr} {vs us : List V} {l r : List D} (h1 : SqT K H a vs) (h2 : Reps K m H vs l) (g1 : SqT K H b us) (g2 : Reps K m H us r) : WalkD K m H (RZ.ItzT K a b) (zpIt l r).nxt := by
  intro m' S' H' e s k
  have q1 := SqT.ext e h1
  have q2 := h2.tr e
  have p1 := SqT.ext e g1
  have p2 := g2.tr e
  show match (match l[k]?, r[k]? with | some d, some c => if names [d, c] = true then none else some (some (D.tup [d, c])) | _, _ => some none) with | none => True | some none => _ | some (some d) => _
  cases q : l[k]? with
  | none => exact ⟨vs, us, q1, p1, .inl (by rw [q2.len]; exact List.getElem?_eq_none_iff.mp q)⟩
  | some d =>
    cases p : r[k]? with
    | none => exact ⟨vs, us, q1, p1, .inr (by rw [p2.len]; exact List.getElem?_eq_none_iff.mp p)⟩
    | some c =>
      by_cases hn : names [d, c] = true
      · simp only [hn, if_true]
      have hn' : names [d, c] = false := by simpa using hn
      simp only [hn', Bool.false_eq_true, if_false]
      obtain ⟨v, h3, h4⟩ := q2.get q
      obtain ⟨u, g3, g4⟩ := p2.get p
      refine ⟨⟨vs, us, v, u, q1, p1, h3, g3⟩, fun x H'' ⟨T, y, z, e0, hT, e1, hy, hz⟩ => ?_⟩
      subst e0 e1
      have t1 := hy vs q1
      have t2 := hz us p1
      rw [h3] at t1; cases t1
      rw [g3] at t2; cases t2
      exact new_pair hn' s hT h4 g4
theorem wk_zpM {a b : Addr} {vs us : List V} {l r : List D} (h1 : SqT K H a vs) (h2 : Reps K m H vs l) (g1 : ∀ m' H', Tr m H m' H' → SqL K H' b us) (g2 : Reps K m H us r) : WalkD K m H (ItzM K a b) (zpIt l r).nxt := by
  intro m' S' H' e s k
  have q1 := SqT.ext e h1
  have q2 := h2.tr e
  have p1 := g1 m' H' e
  have p2 := g2.tr e
  show match (match l[k]?, r[k]? with | some d, some c => if names [d, c] = true then none else some (some (D.tup [d, c])) | _, _ => some none) with | none => True | some none => _ | some (some d) => _
  cases q : l[k]? with
  | none => exact ⟨vs, us, ⟨q1, p1⟩, .inl (by rw [q2.len]; exact List.getElem?_eq_none_iff.mp q)⟩
  | some d =>
    cases p : r[k]? with
    | none => exact ⟨vs, us, ⟨q1, p1⟩, .inr (by rw [p2.len]; exact List.getElem?_eq_none_iff.mp p)⟩
    | some c =>
      by_cases hn : names [d, c] = true
      · simp only [hn, if_true]
      have hn' : names [d, c] = false := by simpa using hn
      simp only [hn', Bool.false_eq_true, if_false]
      obtain ⟨v, h3, h4⟩ := q2.get q
      obtain ⟨u, g3, g4⟩ := p2.get p
      refine ⟨⟨vs, us, v, u, ⟨q1, h3⟩, p1, g3⟩, fun x H'' ⟨y, z, T, hy, hz, e0, hT, e1⟩ => ?_⟩
      subst e0 e1
      have t1 := hy vs q1
      have t2 := hz us p1
      rw [h3] at t1; cases t1
      rw [g3] at t2; cases t2
      exact new_pair hn' s hT h4 g4
theorem wk_zpL {a b : Addr} {vs us : List V} {l r : List D} (h1 : ∀ m' H', Tr m H m' H' → SqL K H' a vs) (h2 : Reps K m H vs l) (g1 : ∀ m' H', Tr m H m' H' → SqL K H' b us) (g2 : Reps K m H us r) : WalkD K m H (Itz K a b) (zpIt l r).nxt := by
  intro m' S' H' e s k
  have q1 := h1 m' H' e
  have q2 := h2.tr e
  have p1 := g1 m' H' e
  have p2 := g2.tr e
  show match (match l[k]?, r[k]? with | some d, some c => if names [d, c] = true then none else some (some (D.tup [d, c])) | _, _ => some none) with | none => True | some none => _ | some (some d) => _
  cases q : l[k]? with
  | none => exact ⟨vs, us, q1, p1, .inl (by rw [q2.len]; exact List.getElem?_eq_none_iff.mp q)⟩
  | some d =>
    cases p : r[k]? with
    | none => exact ⟨vs, us, q1, p1, .inr (by rw [p2.len]; exact List.getElem?_eq_none_iff.mp p)⟩
    | some c =>
      by_cases hn : names [d, c] = true
      · simp only [hn, if_true]
      have hn' : names [d, c] = false := by simpa using hn
      simp only [hn', Bool.false_eq_true, if_false]
      obtain ⟨v, h3, h4⟩ := q2.get q
      obtain ⟨u, g3, g4⟩ := p2.get p
      refine ⟨⟨vs, us, v, u, q1, p1, h3, g3⟩, fun x H'' ⟨T, y, z, e0, hT, e1, hy, hz⟩ => ?_⟩
      subst e0 e1
      have t1 := hy vs q1
      have t2 := hz us p1
      rw [h3] at t1; cases t1
      rw [g3] at t2; cases t2
      exact new_pair hn' s hT h4 g4
theorem fz_lst {a : Addr} {vs : List V} (h : H a = some (.lst vs)) (o : Off m a) : ∀ m' H', Tr m H m' H' → SqL K H' a vs := fun m' H' e => .inl (.inl (e.keep _ _ h o))
end
section
variable {X : Cx} {W : WX} {tg e e2 : Expr} {es : List Expr} {pos p tpos : Pos} {me : EM} {ma : AM} {elts : List Expr} {kk : Nat}
theorem PI.or {t u : TI} (h1 : PI X tg e t) (h2 : PI X tg e u) : PI X tg e (fun σ H R => t σ H R ∨ u σ H R) := ⟨fun pins s σ H R I hw => hw.elim (h1.run pins s σ H R I) (h2.run pins s σ H R I)⟩
/-- for x in e -/
def mItV (me : EM) : IM := fun en S => (me en S).bind fun d S1 => ofO (itOf d S1) S1
theorem i_val (he : PE X e (tE X.K W me)) : PI X tg e (tI X.K W (mItV me)) := by
  refine PI.imp (PI.or (pi_tup he) (PI.or (pi_list he) (pi_str he))) ?_
  rintro σ H R ⟨en, S, m, er, si, h⟩
  cases q : me en S with
  | stuck => unfold mItV at h; rw [q] at h; exact h.elim
  | exc c fs S1 =>
    unfold mItV at h
    rw [q] at h
    exact .inl ⟨en, S, m, er, si, by rw [q]; exact h⟩
  | ok d S1 =>
    unfold mItV at h
    rw [q] at h
    have h : PostG X.K W (fun m' H' (J : L2.It) (it : ItD) => WalkD X.K m' H' J it.nxt) σ m H (ofO (itOf d S1) S1) R := h
    have fin : ∀ (it : ItD), itOf d S1 = some it → ∀ {m' : Mp} {H' : Hp} {J : L2.It}, Ext m H m' H' → Sim X.K m' S1 H' → WalkD X.K m' H' J it.nxt → R J H' := fun it qi m' H' J e' s' wk => by
      rw [qi] at h
      exact h J m' H' e' s' wk
    cases d with
    | tup l => exact .inl ⟨en, S, m, er, si, by
        rw [q]
        intro v m' H' e' s' r'
        cases r' with
        | tup h1 hd h2 => exact ⟨_, rfl, ⟨_, h1⟩, fin _ rfl e' s' (wk_tup h1 h2)⟩⟩
    | lst l => exact .inr (.inl ⟨en, S, m, er, si, by
        rw [q]
        intro v m' H' e' s' r'
        cases r' with
        | lst h1 h2 h3 => exact ⟨_, rfl, ⟨_, .inl (.inl h1)⟩, fin _ rfl e' s' (wk_lst (fz_lst h1 h2) h3)⟩⟩)
    | scr l => exact .inr (.inl ⟨en, S, m, er, si, by
        rw [q]
        intro v m' H' e' s' r'
        cases r' with
        | scr h1 h2 =>
          have g : ∀ m2 H2, Tr m' H' m2 H2 → SqL X.K H2 _ _ := fun m2 H2 e2 => by
            rcases h1 with ⟨o, h1⟩ | h1
            · exact .inl (.inr ⟨o, e2.frz _ _ _ h1⟩)
            · exact h1 H2
          exact ⟨_, rfl, ⟨_, g m' H' Ext.refl.tr⟩, fin _ rfl e' s' (wk_lst g h2)⟩⟩)
    | ref i => exact .inr (.inl ⟨en, S, m, er, si, by
        rw [q]
        intro v m' H' e' s' r'
        cases r' with
        | ref h1 =>
          rename_i a
          cases qo : S1[i]? with
          | none => simp only [itOf, qo, ofO] at h; exact h.elim
          | some o =>
            cases o with
            | ins c ns l => simp only [itOf, qo, ofO] at h; exact h.elim
            | dic kvs => simp only [itOf, qo, ofO] at h; exact h.elim
            | dik kvs => simp only [itOf, qo, ofO] at h; exact h.elim
            | tab _ _ => simp only [itOf, qo, ofO] at h; exact h.elim
            | err _ _ => simp only [itOf, qo, ofO] at h; exact h.elim
            | clo _ _ _ _ => simp only [itOf, qo, ofO] at h; exact h.elim
            | fz => simp only [itOf, qo, ofO] at h; exact h.elim
            | lst l =>
              obtain ⟨vs, h3, h4⟩ := s'.cell i a _ h1 qo
              exact ⟨a, rfl, ⟨vs, .inl (.inl h3)⟩, fin ⟨fun k S' => match S'[i]? with | some (.lst l') => some l'[k]? | _ => none, l.length⟩ (by simp only [itOf, qo]) e' s' (wk_cell h1)⟩⟩)
    | str x => exact .inr (.inr ⟨en, S, m, er, si, by
        rw [q]
        intro v m' H' e' s' r'
        cases r'
        exact ⟨x, rfl, fin _ rfl e' s' wk_str⟩⟩)
    | _ => exact h.elim
/-- range(n), range(a, b) -/
def rgB (i : Int) : Bool := decide (-(2 ^ 62) ≤ i) && decide (i < 2 ^ 62)
def rgOf : List D → Sto → Option ItD
  | [.int j], _ => if rgB j = true then some (rgIt 0 j.toNat) else none
  | [.int i, .int j], _ => if rgB i = true ∧ rgB j = true then some (rgIt i (j - i).toNat) else none
  | _, _ => none
def mItA (f : List D → Sto → Option ItD) (ma : AM) : IM := fun en S => (ma en S).bind fun ds S1 => ofO (f ds S1) S1
theorem i_range1 (hg : Gl X "range") (hm : X.mg "range" = none) (ha : PA X [e] (tA X.K W ma)) (hs : starEach [e] X.env = [(false, eval e X.env)] := by rfl) : PI X tg (.Call (.Name "range" p) [e] [] pos) (tI X.K W (mItA (fun ds S => match ds with | [d] => rgOf [d] S | _ => none) ma)) := by
  refine PI.imp (pi_range1 hg hm ha hs) ?_
  rintro σ H R ⟨en, S, m, er, si, h⟩
  refine ⟨en, S, m, er, si, (PostG.bind (R := Reps X.K) h).mono ?_⟩
  rintro vs H1 ⟨ds, S1, m1, e1, s1, r1, h1⟩
  cases r1 with
  | nil => exact h1.elim
  | cons a b =>
    cases b with
    | cons b c => exact h1.elim
    | nil =>
      cases a with
      | int j =>
        simp only [rgOf] at h1
        by_cases hj : rgB j = true
        · rw [if_pos hj] at h1
          unfold rgB at hj
          simp only [Bool.and_eq_true, decide_eq_true_eq] at hj
          exact ⟨j, rfl, hj.1, hj.2, h1 _ m1 H1 .refl s1 wk_rng⟩
        · rw [if_neg hj] at h1; exact h1.elim
      | _ => exact h1.elim
theorem i_enum (hg : Gl X "enumerate") (hm : X.mg "enumerate" = none) (ha : PA X [e] (tA X.K W ma)) (hs : starEach [e] X.env = [(false, eval e X.env)] := by rfl) : PI X (.Tuple elts kk tpos) (.Call (.Name "enumerate" p) [e] [] pos) (tI X.K W (mItA (fun ds _ => match ds with | [.tup l] => some (enIt l) | [.lst l] => some (enIt l) | _ => none) ma)) := by
  refine PI.imp (PI.or (pi_enumT hg hm ha hs) (pi_enum hg hm ha hs)) ?_
  rintro σ H R ⟨en, S, m, er, si, h⟩
  unfold mItA at h
  cases q : ma en S with
  | stuck => rw [q] at h; exact h.elim
  | exc c fs S1 => rw [q] at h; exact .inl ⟨en, S, m, er, si, by rw [q]; exact h⟩
  | ok ds S1 =>
    rw [q] at h
    simp only [Res.bind] at h
    split at h
    · exact .inl ⟨en, S, m, er, si, by
        rw [q]
        intro v m' H' e' s' r'
        cases r' with
        | cons a b =>
          cases b
          cases a with
          | tup h1 hd h2 => exact ⟨_, _, rfl, h1, h _ m' H' e' s' (wk_enT h1 h2)⟩⟩
    · exact .inr ⟨en, S, m, er, si, by
        rw [q]
        intro v m' H' e' s' r'
        cases r' with
        | cons a b =>
          cases b
          cases a with
          | lst h1 h2 h3 => exact ⟨_, _, rfl, .inl (.inl h1), h _ m' H' e' s' (wk_enL (fz_lst h1 h2) h3)⟩⟩
    · exact h.elim
def zp2 : List D → Sto → Option ItD := fun ds _ => match ds with | [.tup l, .tup r] => some (zpIt l r) | [.lst l, .lst r] => some (zpIt l r) | [.tup l, .lst r] => some (zpIt l r) | _ => none
theorem i_zip (hg : Gl X "zip") (hm : X.mg "zip" = none) (ha : PA X [e, e2] (tA X.K W ma)) (hs : starEach [e, e2] X.env = (false, eval e X.env) :: starEach [e2] X.env := by rfl) (hpl : (backTo pos (starEach [e2] X.env)).any (·.1) = false := by rfl) :
    PI X (.Tuple elts kk tpos) (.Call (.Name "zip" p) [e, e2] [] pos) (tI X.K W (mItA zp2 ma)) := by
  refine PI.imp (PI.or (RZ.pi_zipA hg hm ha hs hpl) (pi_zipM hg hm ha hs hpl)) ?_
  rintro σ H R ⟨en, S, m, er, si, h⟩
  unfold mItA at h
  cases q : ma en S with
  | stuck => rw [q] at h; exact h.elim
  | exc c fs S1 => rw [q] at h; exact .inl ⟨en, S, m, er, si, by rw [q]; exact h⟩
  | ok ds S1 =>
    rw [q] at h
    simp only [Res.bind, zp2] at h
    split at h
    · exact .inl ⟨en, S, m, er, si, by
        rw [q]
        intro v m' H' e' s' r'
        cases r' with
        | cons a b =>
          cases b with
          | cons b c =>
            cases c
            cases a with
            | tup a1 ad a2 =>
              cases b with
              | tup b1 bd b2 => exact ⟨_, _, _, _, rfl, .inr ⟨a1, b1, h _ m' H' e' s' (wk_zpT a1 a2 b1 b2)⟩⟩⟩
    · exact .inl ⟨en, S, m, er, si, by
        rw [q]
        intro v m' H' e' s' r'
        cases r' with
        | cons a b =>
          cases b with
          | cons b c =>
            cases c
            cases a with
            | lst a1 a2 a3 =>
              cases b with
              | lst b1 b2 b3 => exact ⟨_, _, _, _, rfl, .inl ⟨.inl (.inl a1), .inl (.inl b1), h _ m' H' e' s' (wk_zpL (fz_lst a1 a2) a3 (fz_lst b1 b2) b3)⟩⟩⟩
    · exact .inr ⟨en, S, m, er, si, by
        rw [q]
        intro v m' H' e' s' r'
        cases r' with
        | cons a b =>
          cases b with
          | cons b c =>
            cases c
            cases a with
            | tup a1 ad a2 =>
              cases b with
              | lst b1 b2 b3 => exact ⟨_, _, _, _, rfl, a1, .inl (.inl b1), h _ m' H' e' s' (wk_zpM a1 a2 (fz_lst b1 b2) b3)⟩⟩
    · exact h.elim
end
end Ag

namespace Ag
open PySem L2
section
variable {K : PySem.W.Frag} {m : Mp} {H : Hp}
/-- a list that is read: frozen, a cell, or the script -/
def rdOf : D → Sto → Option (List D)
  | .scr l, _ => some l
  | d, S => lstOf d S
theorem rd_at {S : Sto} {v : V} {d : D} {l : List D} (si : Sim K m S H) (r : Rep K m H v d) (h : rdOf d S = some l) : ∃ a vs, v = .ref a ∧ SqL K H a vs ∧ Reps K m H vs l := by
  cases d with
  | scr l' =>
    cases h
    cases r with
    | scr h1 h2 =>
      refine ⟨_, _, rfl, ?_, h2⟩
      rcases h1 with ⟨o, h1⟩ | h1
      · exact .inl (.inr ⟨o, h1⟩)
      · exact h1 H
  | _ =>
    obtain ⟨a, vs, e, h1, h2⟩ := lst_at si r h
    exact ⟨a, vs, e, .inl (.inl h1), h2⟩
theorem at_i {vs : List V} {l : List D} {i : Int} {d : D} (r : Reps K m H vs l) (h : atI l i = some d) : ∃ v, atI vs i = some v ∧ Rep K m H v d := by
  unfold atI at h ⊢
  rw [r.len]
  cases q : ixN l.length i with
  | none => rw [q] at h; cases h
  | some j =>
    rw [q] at h
    exact r.get h
def cutD (l : List D) (lo hi : Option Int) : List D := (l.drop (HT.sIx l.length 0 lo)).take (HT.sIx l.length l.length hi - HT.sIx l.length 0 lo)
theorem Reps.slice {vs : List V} {l : List D} (r : Reps K m H vs l) (lo hi : Option Int) : Reps K m H (cutV vs lo hi) (cutD l lo hi) := by
  unfold cutV cutD
  rw [r.len]
  exact (r.drop _).take _
theorem cut_all {l : List D} {lo hi : Option Int} (h : HT.sIx l.length 0 lo = 0 ∧ HT.sIx l.length l.length hi = l.length) : cutD l lo hi = l := by
  unfold cutD
  rw [h.1, h.2]
  simp
end
def fIx : D → D → Sto → Option D
  | .tup l, .int i, _ => atI l i
  | .str x, .int i, _ => if x.length ≤ lineN then (atI x.cps.toList i).map fun c => .str ⟨#[c]⟩ else none
  | d, .int i, S => (rdOf d S).bind fun l => atI l i
  | _, _, _ => none
def fSl (d : D) (lo hi : Option Int) (S : Sto) : Option D := match d with
  | .tup l => some (.tup (cutD l lo hi))
  | .str z => if z.length ≤ lineN then some (.str (cutS z lo hi)) else none
  | d => (rdOf d S).map fun l => .lst (cutD l lo hi)
section
variable {X : Cx} {W : WX} {e e2 : Expr} {pos p2 : Pos} {me : EM}
theorem x_ix : IxR X (rO2 X.K fIx) := by
  intro ve sl pins s σ H x y v u Q I rx ry ⟨d, e, S, m, r, si, hx, hy, hf, hq⟩ hp
  unfold fIx at hf
  split at hf
  · cases hy
    cases hx with
    | tup h1 hd h2 =>
      obtain ⟨z, h3, h4⟩ := at_i h2 hf
      exact ix_tup ve sl pins s σ H _ _ v u Q I rx ry ⟨_, _, _, z, rfl, rfl, h1, h3, hq _ H .refl si h4⟩ hp
  · rename_i x' i
    by_cases hl : x'.length ≤ lineN
    · rw [if_pos hl] at hf
      cases q : atI x'.cps.toList i with
      | none => rw [q] at hf; cases hf
      | some c =>
        rw [q] at hf
        cases hf; cases hx; cases hy
        exact ix_str ve sl pins s σ H _ _ v u Q I rx ry ⟨x', i, c, rfl, rfl, by rw [← line_eq]; exact hl, q, hq _ H .refl si (.str _)⟩ hp
    · rw [if_neg hl] at hf; cases hf
  · rename_i i _ _
    cases q : rdOf d S with
    | none => rw [q] at hf; cases hf
    | some l =>
      rw [q] at hf
      cases hy
      obtain ⟨a, vs, rfl, h1, h2⟩ := rd_at si hx q
      obtain ⟨z, h3, h4⟩ := at_i h2 hf
      exact ix_list ve sl pins s σ H _ _ v u Q I rx ry ⟨a, vs, i, z, rfl, rfl, h1, h3, hq _ H .refl si h4⟩ hp
  · cases hf
/-- e[lo:hi] -/
abbrev OM := En → Sto → Res (Option Int)
def tO (K : PySem.W.Frag) (W : WX) (o : OM) : TO := fun σ H Q => ∃ en S m, EnvR K m H σ en ∧ Sim K m S H ∧ PostG K W (fun _ _ (b : Option Int) c => b = c) σ m H (o en S) Q
def oNone : OM := fun _ S => .ok none S
def oSome (me : EM) : OM := fun en S => (me en S).bind fun d S1 => match d with
  | .int i => .ok (some i) S1
  | _ => .stuck
theorem PO.imp {eo : Option Expr} {t t' : TO} (h : PO X eo t) (f : ∀ σ H Q, t' σ H Q → t σ H Q) : PO X eo t' := ⟨fun pins s σ H Q I hw => h.run pins s σ H Q I (f _ _ _ hw)⟩
theorem o_none : PO X none (tO X.K W oNone) := PO.imp po_none fun σ H Q ⟨en, S, m, er, si, h⟩ => h none m H .refl si rfl
theorem o_some (he : PE X e (tE X.K W me)) : PO X (some e) (tO X.K W (oSome me)) := by
  refine PO.imp (po_some he) ?_
  rintro σ H Q ⟨en, S, m, er, si, h⟩
  refine ⟨en, S, m, er, si, (PostG.bind (R := Rep X.K) h).mono ?_⟩
  rintro v H1 ⟨d, S1, m1, e1, s1, r1, h1⟩
  cases r1 with
  | int i => exact ⟨i, rfl, h1 _ m1 H1 .refl s1 rfl⟩
  | _ => exact h1.elim
def mSl (me : EM) (lo hi : OM) : EM := fun en S => (me en S).bind fun d S1 => (lo en S1).bind fun l S2 => (hi en S2).bind fun h S3 => ofO (fSl d l h S3) S3
def rSlO (K : PySem.W.Frag) : V → Option Int → Option Int → Hp → VK → Prop := fun x lo hi H Q => ∃ d S m r, Sim K m S H ∧ Rep K m H x d ∧ fSl d lo hi S = some r ∧ ∀ v H', Ext m H m H' → Sim K m S H' → Rep K m H' v r → Q v H'
/-- t[lo:hi]: the whole of it is t itself, else new -/
theorem sl_tupF : SlR X (fun x lo hi H Q => ∃ a xs, x = .ref a ∧ SqT X.K H a xs ∧ (HT.sIx xs.length 0 lo = 0 ∧ HT.sIx xs.length xs.length hi = xs.length → Q (.ref a) H) ∧
    (¬ (HT.sIx xs.length 0 lo = 0 ∧ HT.sIx xs.length xs.length hi = xs.length) → ∀ p o, H p = none → o.dict = none → Q (.ref p) (upd H p (.frz o (.tup (cutV xs lo hi)))))) := by
  rintro pins s σ H x v vl vu lo hi sl Q I rx hs pl pu ⟨a, xs, rfl, hx, same, fresh⟩
  by_cases whole : HT.sIx xs.length 0 lo = 0 ∧ HT.sIx xs.length xs.length hi = xs.length
  · exact sl_tupA pins s σ H _ v vl vu lo hi sl Q I rx hs pl pu ⟨a, xs, rfl, hx, same, fun n => absurd whole n⟩
  · cases rx
    obtain ⟨its, r, ht, hz⟩ := I.tuple hx
    have n : its.toArray.size = xs.length := List.size_toArray.trans r.length.symm
    refine ⟨"tuple", _, PyProof.Rows.slot_tuple_getitem.lookup, ht.typeIs, HT.getItem_tuple_cut ht hs pl pu (n.symm ▸ whole) ?_ (n.symm ▸ hz)⟩
    rw [n]
    exact newTup I ((r.drop _).take _) (Nat.le_trans (cutV_length xs lo hi) hz) (fresh whole)
/-- tuple(list) is new -/
theorem call_tupF : CallR X (.type "tuple") (fun vs H Q => ∃ p ys, vs = [.ref p] ∧ SqL X.K H p ys ∧ ∀ l o, H l = none → o.dict = none → Q (.ref l) (upd H l (.frz o (.tup ys)))) := by
  rintro pins s σ H vs us Q I r ⟨p, ys, rfl, hq, q⟩
  obtain ⟨_, rfl, rx⟩ := vals1 r
  cases rx
  obtain ⟨its, rv, pl, hz⟩ := I.list hq
  have n : its.toArray.size ≤ sizeLine := by rw [List.size_toArray, ← rv.length]; exact hz
  exact call_tuple_list pl.isList (fun h' kp => newTup (I.kept (t' := s.toks) (h' := h') kp) rv hz q) n
theorem sl_ok : SlR X (rSlO X.K) := by
  intro pins s σ H x v vl vu lo hi sl Q I rx hs pl pu ⟨d, S, m, r, si, hx, hf, hq⟩
  unfold fSl at hf
  split at hf
  · cases hf
    cases hx with
    | tup h1 hd h2 =>
      refine sl_tupF pins s σ H _ v vl vu lo hi sl Q I rx hs pl pu ⟨_, _, rfl, h1, fun c => ?_, fun _ q o hp ho => ?_⟩
      · rw [h2.len] at c
        exact hq _ H .refl si (by rw [cut_all c]; exact .tup h1 hd h2)
      · exact hq _ _ (.new hp) (si.new hp) (tupF ho ((h2.slice lo hi).to (.new hp)))
  · rename_i z
    by_cases hl : z.length ≤ lineN
    · rw [if_pos hl] at hf
      cases hf; cases hx
      exact sl_str pins s σ H _ v vl vu lo hi sl Q I rx hs pl pu ⟨z, rfl, by rw [← line_eq]; exact hl, hq _ H .refl si (.str _)⟩
    · rw [if_neg hl] at hf; cases hf
  · cases q : rdOf d S with
    | none => rw [q] at hf; cases hf
    | some l =>
      rw [q] at hf
      cases hf
      obtain ⟨a, vs, rfl, h1, h2⟩ := rd_at si hx q
      exact sl_list pins s σ H _ v vl vu lo hi sl Q I rx hs pl pu ⟨a, vs, rfl, h1, fun q hp => hq _ _ (.new hp) (si.new hp) (.lst upd_same (si.off hp) ((h2.slice lo hi).to (.new hp)))⟩
theorem e_sl {lo hi : Option Expr} {ml mh : OM} (he : PE X e (tE X.K W me)) (hl : PO X lo (tO X.K W ml)) (hh : PO X hi (tO X.K W mh)) : PE X (.Subscript e (.Slice lo hi none p2) pos) (tE X.K W (mSl me ml mh)) := by
  refine PE.imp (pe_slice sl_ok he hl hh) ?_
  rintro σ H Q ⟨en, S, m, er, si, h⟩
  refine ⟨en, S, m, er, si, (PostG.bind (R := Rep X.K) h).mono ?_⟩
  rintro v H1 ⟨d, S1, m1, e1, s1, r1, h1⟩
  refine ⟨en, S1, m1, er.to e1, s1, (PostG.bind (R := fun _ _ (b : Option Int) c => b = c) h1).mono ?_⟩
  rintro l H2 ⟨l', S2, m2, e2, s2, rfl, h2⟩
  refine ⟨en, S2, m2, (er.to e1).to e2, s2, (PostG.bind (R := fun _ _ (b : Option Int) c => b = c) h2).mono ?_⟩
  rintro u H3 ⟨u', S3, m3, e3, s3, rfl, h3⟩
  cases q : fSl d l u S3 with
  | none => rw [q] at h3; exact h3.elim
  | some r =>
    rw [q] at h3
    exact ⟨d, S3, m3, r, s3, (r1.to e2).to e3, q, fun z H4 e4 s4 r4 => h3 z m3 H4 e4 s4 r4⟩
end

/-! ### built-in functions -/
def isInts : List D → Option (List Int)
  | [] => some []
  | .int i :: l => (isInts l).map (i :: ·)
  | _ => none
def isBls : List D → Option (List Bool)
  | [] => some []
  | .bl b :: l => (isBls l).map (b :: ·)
  | _ => none
section
variable {K : PySem.W.Frag} {m : Mp} {H : Hp}
theorem ints_of : ∀ {vs : List V} {l : List D} {ns : List Int}, Reps K m H vs l → isInts l = some ns → vs = ns.map V.int
  | _, [], ns, h, e => by cases h; cases e; rfl
  | _, d :: l, ns, h, e => by
    cases h with
    | cons h1 h2 =>
      cases h1 with
      | int i =>
        simp only [isInts] at e
        cases q : isInts l with
        | none => rw [q] at e; cases e
        | some ns' =>
          rw [q] at e; cases e
          rw [ints_of h2 q]; rfl
      | _ => cases e
theorem bls_of : ∀ {vs : List V} {l : List D} {ns : List Bool}, Reps K m H vs l → isBls l = some ns → vs = ns.map V.bl
  | _, [], ns, h, e => by cases h; cases e; rfl
  | _, d :: l, ns, h, e => by
    cases h with
    | cons h1 h2 =>
      cases h1 with
      | bl i =>
        simp only [isBls] at e
        cases q : isBls l with
        | none => rw [q] at e; cases e
        | some ns' =>
          rw [q] at e; cases e
          rw [bls_of h2 q]; rfl
      | _ => cases e
end
def f1 (f : D → Sto → Option D) : List D → Sto → Option D
  | [d], S => f d S
  | _, _ => none
def gLen (d : D) (S : Sto) : Option D := match d with
  | .tup l => some (.int l.length)
  | .str x => if x.length ≤ lineN then some (.int x.length) else none
  | d => (rdOf d S).map fun l => .int l.length
def gAbs : D → Sto → Option D
  | .int i, _ => some (.int (if i < 0 then -i else i))
  | _, _ => none
def gInt : D → Sto → Option D
  | .int i, _ => some (.int i)
  | .bl b, _ => some (.int (if b then 1 else 0))
  | .str x, _ => if x.length ≤ 640 then (intText? x).map .int else none
  | _, _ => none
def gSum (d : D) (S : Sto) : Option D := match d with
  | .tup l => (isInts l).map fun ns => .int ns.sum
  | d => ((rdOf d S).bind isInts).map fun ns => .int ns.sum
def gAll (d : D) (S : Sto) : Option D := ((rdOf d S).bind isBls).map fun bs => .bl (bs.all id)
def gAny (d : D) (S : Sto) : Option D := ((rdOf d S).bind isBls).map fun bs => .bl (bs.any id)
def gTup (d : D) (S : Sto) : Option D := match d with
  | .tup l => some (.tup l)
  | d => (rdOf d S).map fun l => .tup l
def fMax2 : List D → Sto → Option D
  | [.int i, .int j], _ => some (.int (if j > i then j else i))
  | _, _ => none
def fMin2 : List D → Sto → Option D
  | [.int i, .int j], _ => some (.int (if j < i then j else i))
  | _, _ => none
def fDivmod : List D → Sto → Option D
  | [.int i, .int j], _ => if 0 < j ∧ j < 1073741824 then some (.tup [.int (i / j), .int (i % j)]) else none
  | _, _ => none
section
variable {X : Cx}
theorem c1 {f : Value} {g : D → Sto → Option D} (h : ∀ (pins : List (Addr × Obj)) (s : Shared) (σ : L2.St) (H : Hp) (x : V) (u : Value) (Q : VK) (d : D) (S : Sto) (m : Mp) (r : D), L2.Inv X pins σ H s → Vals [x] [u] → Sim X.K m S H → Rep X.K m H x d → g d S = some r →
    (∀ v H', Ext m H m H' → Sim X.K m S H' → Rep X.K m H' v r → Q v H') → wpAny (model X.prog X.w) X.A (call f [u]) (EP X pins σ Q) X.xe s) : CallR X f (rOL X.K (f1 g)) := by
  intro pins s σ H xs us Q I rx ⟨ds, S, m, r, si, hx, hf, hq⟩
  cases hx with
  | nil => cases hf
  | cons h1 h2 =>
    cases h2 with
    | cons h2 h3 => cases hf
    | nil =>
      cases rx with
      | cons a b =>
        cases b
        exact h pins s σ H _ _ Q _ S m r I (.cons a .nil) si h1 hf hq
theorem b_len : CallR X (.builtin "len") (rOL X.K (f1 gLen)) := c1 fun pins s σ H x u Q d S m r I rx si hx hf hq => by
  unfold gLen at hf
  split at hf
  · cases hf
    cases hx with
    | tup h1 hd h2 => exact call_len_seq pins s σ H _ _ Q I rx ⟨_, _, rfl, .inr h1, by rw [h2.len]; exact hq _ H .refl si (.int _)⟩
  · rename_i z
    by_cases hl : z.length ≤ lineN
    · rw [if_pos hl] at hf
      cases hf; cases hx
      exact call_len_str pins s σ H _ _ Q I rx ⟨z, rfl, by rw [← line_eq]; exact hl, hq _ H .refl si (.int _)⟩
    · rw [if_neg hl] at hf; cases hf
  · cases q : rdOf d S with
    | none => rw [q] at hf; cases hf
    | some l =>
      rw [q] at hf; cases hf
      obtain ⟨a, vs, rfl, h1, h2⟩ := rd_at si hx q
      exact call_len_seq pins s σ H _ _ Q I rx ⟨a, vs, rfl, .inl h1, by rw [h2.len]; exact hq _ H .refl si (.int _)⟩
theorem b_abs : CallR X (.builtin "abs") (rOL X.K (f1 gAbs)) := c1 fun pins s σ H x u Q d S m r I rx si hx hf hq => by
  unfold gAbs at hf
  split at hf
  · cases hf; cases hx
    exact call_abs pins s σ H _ _ Q I rx ⟨_, rfl, hq _ H .refl si (.int _)⟩
  · cases hf
theorem b_int : CallR X (.type "int") (rOL X.K (f1 gInt)) := c1 fun pins s σ H x u Q d S m r I rx si hx hf hq => by
  unfold gInt at hf
  split at hf
  · cases hf; cases hx
    exact call_int1 pins s σ H _ _ Q I rx (.inl ⟨_, rfl, hq _ H .refl si (.int _)⟩)
  · cases hf; cases hx
    exact call_int1 pins s σ H _ _ Q I rx (.inr ⟨_, rfl, hq _ H .refl si (.int _)⟩)
  · rename_i z
    by_cases hl : z.length ≤ 640
    · rw [if_pos hl] at hf
      cases q : intText? z with
      | none => rw [q] at hf; cases hf
      | some n =>
        rw [q] at hf
        cases hf; cases hx
        exact call_int_str pins s σ H _ _ Q I rx ⟨z, n, rfl, q, hl, hq _ H .refl si (.int _)⟩
    · rw [if_neg hl] at hf; cases hf
  · cases hf
theorem b_all (hc : X.calm = true) : CallR X (.builtin "all") (rOL X.K (f1 gAll)) := c1 fun pins s σ H x u Q d S m r I rx si hx hf hq => by
  unfold gAll at hf
  cases q : rdOf d S with
  | none => rw [q] at hf; cases hf
  | some l =>
    rw [q] at hf
    cases q2 : isBls l with
    | none => simp only [Option.bind_some, q2] at hf; cases hf
    | some bs =>
      simp only [Option.bind_some, q2] at hf; cases hf
      obtain ⟨a, vs, rfl, h1, h2⟩ := rd_at si hx q
      have e := bls_of h2 q2
      subst e
      exact cr_all hc pins s σ H _ _ Q I rx ⟨a, bs, rfl, h1, hq _ H .refl si (.bl _)⟩
theorem tup_sum {prog : Program} {w : World} {A : Around} {E : Value → Shared → Prop} {s : Shared} {t : Addr} {its : List Value} {ns : List Int} {Q : Value → Shared → Prop} (hh : A.handled = none) (ht : s.heap.IsTuple t its.toArray) (hi : PyProof.Rows.IntsAre its ns)
    (h : ∀ h' tk t', (∀ b o, s.heap.get? b = some o → h'.get? b = some o) → Q (.int ns.sum t') { s with heap := h', toks := tk }) : wpAny (model prog w) A (call (.builtin "sum") [.ref t]) Q E s := by
  obtain ⟨xs, e⟩ := hi.allInts.items
  have hn : PySem.numsOf (intItems xs).toList = ns := by rw [← e]; exact hi.numsOf
  rw [PySem.nums_intItems] at hn
  rw [e] at ht
  refine PySem.W.ktm_sumG hh ht fun h' tk t' hk => ?_
  have := h h' tk t' hk
  rw [PySem.preSum_eq, List.take_of_length_le (by simp), hn]; exact this
theorem b_sum (hc : X.calm = true) : CallR X (.builtin "sum") (rOL X.K (f1 gSum)) := c1 fun pins s σ H x u Q d S m r I rx si hx hf hq => by
  unfold gSum at hf
  split at hf
  · rename_i l
    cases q : isInts l with
    | none => rw [q] at hf; cases hf
    | some ns =>
      rw [q] at hf; cases hf
      cases hx with
      | tup h1 hd h2 =>
        have e := ints_of h2 q
        subst e
        obtain ⟨its, rv, p, _⟩ := I.tuple h1
        cases rx with
        | cons a b =>
          cases a
          exact tup_sum (I.ok.hd hc) p rv.ints fun h' tk t' hk => ⟨.int _, H, I.kept hk, ⟨_, rfl⟩, hq _ H .refl si (.int _)⟩
  · cases q : rdOf d S with
    | none => rw [q] at hf; cases hf
    | some l =>
      rw [q] at hf
      cases q2 : isInts l with
      | none => simp only [Option.bind_some, q2] at hf; cases hf
      | some ns =>
        simp only [Option.bind_some, q2] at hf; cases hf
        obtain ⟨a, vs, rfl, h1, h2⟩ := rd_at si hx q
        have e := ints_of h2 q2
        subst e
        exact cr_sum hc pins s σ H _ _ Q I rx ⟨a, ns, rfl, h1, hq _ H .refl si (.int _)⟩
theorem b_tup : CallR X (.type "tuple") (rOL X.K (f1 gTup)) := c1 fun pins s σ H x u Q d S m r I rx si hx hf hq => by
  unfold gTup at hf
  split at hf
  · cases hf
    cases hx with
    | tup h1 hd h2 => exact call_tuple_of pins s σ H _ _ Q I rx ⟨_, _, rfl, .inr ⟨h1, hq _ H .refl si (.tup h1 hd h2)⟩⟩
  · cases q : rdOf d S with
    | none => rw [q] at hf; cases hf
    | some l =>
      rw [q] at hf; cases hf
      obtain ⟨a, vs, rfl, h1, h2⟩ := rd_at si hx q
      exact call_tupF pins s σ H _ _ Q I rx ⟨a, vs, rfl, h1, fun l o hl ho => hq _ _ (.new hl) (si.new hl) (tupF ho (h2.to (.new hl)))⟩
theorem b_max2 (hc : X.calm = true) : CallR X (.builtin "max") (rOL X.K fMax2) := by
  intro pins s σ H xs us Q I rx ⟨ds, S, m, r, si, hx, hf, hq⟩
  unfold fMax2 at hf
  split at hf
  · cases hf
    cases hx with
    | cons a b =>
      cases b with
      | cons b c =>
        cases a; cases b; cases c
        exact call_max2 hc pins s σ H _ _ Q I rx ⟨_, _, rfl, hq _ H .refl si (.int _)⟩
  · cases hf
theorem b_min2 (hc : X.calm = true) : CallR X (.builtin "min") (rOL X.K fMin2) := by
  intro pins s σ H xs us Q I rx ⟨ds, S, m, r, si, hx, hf, hq⟩
  unfold fMin2 at hf
  split at hf
  · cases hf
    cases hx with
    | cons a b =>
      cases b with
      | cons b c =>
        cases a; cases b; cases c
        exact call_min2 hc pins s σ H _ _ Q I rx ⟨_, _, rfl, hq _ H .refl si (.int _)⟩
  · cases hf
theorem b_divmod : CallR X (.builtin "divmod") (rOL X.K fDivmod) := by
  intro pins s σ H xs us Q I rx ⟨ds, S, m, r, si, hx, hf, hq⟩
  unfold fDivmod at hf
  split at hf
  · rename_i i j
    by_cases hl : 0 < j ∧ j < 1073741824
    · rw [if_pos hl] at hf
      cases hf
      cases hx with
      | cons a b =>
        cases b with
        | cons b c =>
          cases a; cases b; cases c
          exact call_divmod pins s σ H _ _ Q I rx ⟨_, _, rfl, hl, fun p hp => hq _ _ (.new hp) (si.new hp) (.tup (.inl (.inl upd_same)) (fun z => by cases z) (.cons (.int _) (.cons (.int _) .nil)))⟩
    · rw [if_neg hl] at hf; cases hf
  · cases hf
end
end Ag

namespace Ag
open PySem L2
/-! ### repr -/
def gRepr (d : D) (S : Sto) : Option D := match pyS d S with
  | some p => if p.showable = true ∧ p.hasDict = false ∧ p.depth ≤ 60 ∧ p.shown.length ≤ lineN then some (.str p.shown) else none
  | none => none
section
variable {X : Cx} {W : WX} {j : Nat}
theorem b_repr (B : Bd X W j) : CallR X (.builtin "repr") (rOL X.K (f1 gRepr)) := c1 fun pins s σ H x u Q d S m r I rx si hx hf hq => by
  unfold gRepr at hf
  cases q : pyS d S with
  | none => rw [q] at hf; cases hf
  | some p =>
    rw [q] at hf
    simp only at hf
    by_cases hl : p.showable = true ∧ p.hasDict = false ∧ p.depth ≤ 60 ∧ p.shown.length ≤ lineN
    · rw [if_pos hl] at hf
      cases hf
      have hsz : p.shown.length ≤ sizeLine := by rw [← line_eq]; exact hl.2.2.2
      have fin : ∀ {s' : Shared} {t : Tok}, L2.Inv X pins σ H s' → EP X pins σ Q (.str p.shown t) s' := fun I' => ⟨.str _, H, I', ⟨_, rfl⟩, hq _ H .refl si (.str _)⟩
      have hun := B.room.units
      have dp := dpS_of si hx q
      cases rx with
      | cons rx _ =>
        cases dp with
        | non => cases rx; exact PySem.P.repr_of_none (fin (I.tok _))
        | bl b => cases rx; exact PySem.P.repr_of_bool (fin (I.tok _))
        | int i =>
          obtain ⟨t, rfl⟩ := rx
          have h1 : i.natAbs.log2 < 1920 := by have := hl.1; simpa [PyData.showable] using this
          exact PySem.P.repr_of_int h1 (fin (I.tok _))
        | str z => obtain ⟨t, rfl⟩ := rx; exact PySem.P.repr_of_str (fin (I.tok _)) hsz
        | lst h1 h2 =>
          obtain ⟨as, rd⟩ := Dp.reads I _ _ _ (.lst h1 h2) rx
          cases rx
          exact repr_of_reads' rd hl.1 (fun z => by rw [hl.2.1] at z; cases z) B.gd (by have := hl.2.2.1; omega) (fun _ _ e => e) (fun h' u tk hk => fin (I.kept hk)) hsz
        | tup h1 h2 =>
          obtain ⟨as, rd⟩ := Dp.reads I _ _ _ (.tup h1 h2) rx
          cases rx
          exact repr_of_reads' rd hl.1 (fun z => by rw [hl.2.1] at z; cases z) B.gd (by have := hl.2.2.1; omega) (fun _ _ e => e) (fun h' u tk hk => fin (I.kept hk)) hsz
    · rw [if_neg hl] at hf; cases hf

/-! ### isinstance -/
inductive Ty where
  | b (n : String) | o (c : Str)
  deriving DecidableEq
def tyOf (d : D) (S : Sto) : Option Ty := match d with
  | .non => some (.b "NoneType")
  | .bl _ => some (.b "bool")
  | .int _ => some (.b "int")
  | .str _ => some (.b "str")
  | .tup _ => some (.b "tuple")
  | .lst _ => some (.b "list")
  | .obj c _ _ => some (.o c)
  | .ref i => (match S[i]? with
    | some (.lst _) => some (.b "list")
    | some (.ins c _ _) => some (.o c)
    | _ => none)
  | _ => none
def clD : D → Option Ty
  | .ty n => some (.b n)
  | .gl x => some (.o x)
  | _ => none
def Ty.val (K : PySem.W.Frag) : Ty → Value
  | .b n => .type n
  | .o c => .ref (He.ga K c)
/-- what is known of classes: the instances of own classes (cs), the answers (tab) -/
structure Iso (K : PySem.W.Frag) (cs : List Str) (tab : List (Ty × Ty × Bool)) : Prop where
  own : ∀ c ∈ cs, Cls K (He.ga K c) ∧ PySem.W.findIn K (.ref (He.ga K c)) "__class__" = some (some (.builtin "object.__class__")) ∧
    PySem.W.specialIn K (.builtin "object.__class__") "__get__" = some (some (.builtin "getset_descriptor.__get__")) ∧ PySem.W.takesIn K (.builtin "object.__class__") = some true ∧ PySem.W.mroIn K (He.ga K c) (.type "object") = some true
  ans : ∀ r ∈ tab, PySem.W.kitOne K (r.1.val K) (r.2.1.val K) = some r.2.2
def look2 (t c : Ty) : List (Ty × Ty × Bool) → Option Bool
  | [] => none
  | r :: l => if r.1 = t ∧ r.2.1 = c then some r.2.2 else look2 t c l
theorem look2_mem {t c : Ty} {b : Bool} : ∀ {l : List (Ty × Ty × Bool)}, look2 t c l = some b → (t, c, b) ∈ l
  | [], h => by cases h
  | r :: l, h => by
    simp only [look2] at h
    by_cases e : r.1 = t ∧ r.2.1 = c
    · rw [if_pos e] at h
      obtain ⟨r1, r2, r3⟩ := r
      obtain ⟨e1, e2⟩ := e
      cases h
      simp only at e1 e2
      subst e1 e2
      exact List.mem_cons_self
    · rw [if_neg e] at h
      exact List.mem_cons_of_mem _ (look2_mem h)
def fIsi (cs : List Str) (tab : List (Ty × Ty × Bool)) : List D → Sto → Option D
  | [d, c], S => match tyOf d S, clD c with
    | some (.o k), some u => if k ∈ cs then (look2 (.o k) u tab).map .bl else none
    | some t, some u => (look2 t u tab).map .bl
    | _, _ => none
  | _, _ => none
theorem tyX_of {K : PySem.W.Frag} {m : Mp} {H : Hp} {S : Sto} {v : V} {d : D} {t : Ty} {cs : List Str} {tab : List (Ty × Ty × Bool)} (is : Iso K cs tab) (si : Sim K m S H) (r : Rep K m H v d) (h : tyOf d S = some t) (hc : ∀ k, t = .o k → k ∈ cs) : TyX K H v (t.val K) := by
  have ins : ∀ {a dx : Addr} {c : Str} {fs : List (Str × V)}, H a = some (.ins (He.ga K c) dx fs) → c ∈ cs → TyX K H (.ref a) (.ref (He.ga K c)) := fun ha hcs => by
    obtain ⟨h1, h2, h3, h4, h5⟩ := is.own _ hcs
    exact .base (.ins ha h1 h2 h3 h4 h5)
  cases r with
  | non => cases h; exact .base .non
  | bl b => cases h; exact .base (.bl b)
  | int i => cases h; exact .base (.int i)
  | str x => cases h; exact .base (.str x)
  | ty n => cases h
  | gl x => cases h
  | tup h1 hd h2 =>
    cases h
    rcases h1 with (h1 | ⟨o, h1⟩) | ⟨o, its, n, h1, h3, _⟩
    · exact .base (.tup h1)
    · exact .fTuple h1
    · exact .kTuple h1 h3
  | lst h1 h2 h3 => cases h; exact .base (.lst h1)
  | scr h1 h2 => cases h
  | obj h1 h2 h3 h4 => cases h; exact ins h1 (hc _ rfl)
  | dct h1 h2 h3 h4 => cases h
  | ref h1 =>
    rename_i a i
    simp only [tyOf] at h
    cases q : S[i]? with
    | none => rw [q] at h; cases h
    | some o =>
      rw [q] at h
      have c := si.cell i a o h1 q
      cases o with
      | lst l => cases h; obtain ⟨vs, g1, _⟩ := c; exact .base (.lst g1)
      | ins c' ns l => cases h; obtain ⟨dx, fs, g1, _⟩ := c; exact ins g1 (hc _ rfl)
      | dic kvs => cases h
      | dik kvs => cases h
      | tab _ _ => cases h
      | err _ _ => cases h
      | clo _ _ _ _ => cases h
      | fz => cases h
theorem b_isi {cs : List Str} {tab : List (Ty × Ty × Bool)} (is : Iso X.K cs tab) : CallR X (.builtin "isinstance") (rOL X.K (fIsi cs tab)) := by
  intro pins s σ H xs us Q I rx ⟨ds, S, m, r, si, hx, hf, hq⟩
  unfold fIsi at hf
  split at hf
  · rename_i d c
    cases hx with
    | cons r1 b =>
      cases b with
      | cons r2 b =>
        cases b
        rename_i x y
        have cl : ∀ u, clD c = some u → ClsV y (u.val X.K) := fun u hu => by
          cases r2 with
          | ty n => cases hu; exact .ty n
          | gl z => cases hu; exact .own _
          | _ => cases hu
        have go : ∀ t u b, tyOf d S = some t → clD c = some u → (∀ k, t = .o k → k ∈ cs) → look2 t u tab = some b → r = .bl b → wpAny (model X.prog X.w) X.A (call (.builtin "isinstance") us) (EP X pins σ Q) X.xe s := fun t u b h1 h2 h3 h4 h5 => by
          subst h5
          exact call_isi pins s σ H _ _ Q I rx ⟨x, y, t.val X.K, u.val X.K, b, rfl, cl u h2, tyX_of is si r1 h1 h3, is.ans _ (look2_mem h4), hq _ H .refl si (.bl b)⟩
        split at hf
        · rename_i k u q1 q2
          by_cases hk : k ∈ cs
          · rw [if_pos hk] at hf
            cases q3 : look2 (.o k) u tab with
            | none => rw [q3] at hf; cases hf
            | some b => rw [q3] at hf; exact go _ u b q1 q2 (fun k' e => by cases e; exact hk) q3 (Option.some.inj hf).symm
          · rw [if_neg hk] at hf; cases hf
        · rename_i t u hn q1 q2
          cases q3 : look2 t u tab with
          | none => rw [q3] at hf; cases hf
          | some b => rw [q3] at hf; exact go t u b q1 q2 (fun k' e => by subst e; exact (hn k' rfl).elim) q3 (Option.some.inj hf).symm
        · cases hf
  · cases hf

/-! ### len of an instance, by its __len__ -/
def rOR (K : PySem.W.Frag) (f : List D → Sto → Res D) : List V → Hp → VK → Prop := fun xs H Q => ∃ ds S m, Sim K m S H ∧ Reps K m H xs ds ∧ PostG K W0 (Rep K) [] m H (f ds S) Q
def mCR (f : List D → Sto → Res D) (mr : AM) : EM := fun en S => (mr en S).bind fun ds S1 => match f ds S1 with
  | .ok r S2 => .ok r S2
  | _ => .stuck
theorem e_cr {x : Str} {id : String} {f : List D → Sto → Res D} {e : Expr} {es : List Expr} {mr : AM} {p pos : Pos} (hc : CallR X (.builtin id) (rOR X.K f)) (hg : Gl X x) (hm : X.mg x = none) (hv : bootBuiltins x = some (.builtin id)) (ha : PA X (e :: es) (tA X.K W mr))
    (hn : x ≠ "__name__" := by decide) (hd : (x == ("__debug__" : Str)) = false := by decide) (hs : starEach (e :: es) X.env = (false, eval e X.env) :: starEach es X.env := by rfl) (hb : (backTo pos (starEach es X.env)).any (·.1) = false := by rfl) :
    PE X (.Call (.Name x p) (e :: es) [] pos) (tE X.K W (mCR f mr)) := by
  refine PE.imp (pe_callB hc hg hm hv ha hn hd hs hb) ?_
  rintro σ H Q ⟨en, S, m, er, si, h⟩
  refine ⟨en, S, m, er, si, (PostG.bind (R := Reps X.K) h).mono ?_⟩
  rintro vs H1 ⟨ds, S1, m1, e1, s1, r1, h1⟩
  refine ⟨ds, S1, m1, s1, r1, ?_⟩
  cases q : f ds S1 with
  | ok r S2 => simp only [q] at h1; exact h1
  | exc c fs S2 => simp only [q] at h1; exact h1.elim
  | stuck => simp only [q] at h1; exact h1
def lenF (c : Str) (fm : List D → Sto → Res D) : List D → Sto → Res D
  | [d], S => match clsD d S with
    | some c' => if c' = c then (match fm [d] S with
      | .ok (.int n) S' => if 0 ≤ n ∧ n < 2 ^ 63 then .ok (.int n) S' else .stuck
      | _ => .stuck) else .stuck
    | none => ofO (gLen d S) S
  | _, _ => .stuck
theorem b_lenO {k : Nat} {c : Str} {f : Addr} {fd : FuncData} {ps : List Str} {fm : List D → Sto → Res D} (B : Bd X W j) (hl : PySem.W.findIn X.K (.ref (He.ga X.K c)) "__len__" = some (some (.ref f))) (hfn : PySem.W.isFn X.K (.ref f) = true) (F : FnG X.prog X.w X.K X.mg X.base k f fd ps (spOf X.K 1 fm)) (hk : k + 1 ≤ j) (hb : Binds X.K fd ps []) :
    CallR X (.builtin "len") (rOR X.K (lenF c fm)) := by
  intro pins s σ H xs us Q I rx ⟨ds, S, m, si, hx, h⟩
  cases hx with
  | nil => exact h.elim
  | cons r1 r2 =>
    cases r2 with
    | cons r2 r3 => exact h.elim
    | nil =>
      rename_i v d
      simp only [lenF] at h
      cases q : clsD d S with
      | none =>
        simp only [q] at h
        cases q2 : gLen d S with
        | none => rw [q2] at h; exact h.elim
        | some r => rw [q2] at h; exact b_len pins s σ H _ _ Q I rx ⟨[d], S, m, r, si, .cons r1 .nil, q2, fun v H' e' s' r' => h v m H' e' s' r'⟩
      | some c' =>
        simp only [q] at h
        by_cases hc : c' = c
        · rw [if_pos hc] at h
          subst hc
          obtain ⟨a, dx, fs, rfl, g1⟩ := cls_at si r1 q
          cases rx with
          | cons ra rb =>
            cases ra; cases rb
            obtain ⟨mA, O, _, _, _, _⟩ := ins_get I.hok g1
            obtain ⟨od, J, _⟩ := O.look
            obtain ⟨mf, Fr⟩ := I.fr
            refine PySem.W.len_K Fr I.mod.kin J hl hfn ?_
            have hsp : spOf X.K 1 fm [.ref a] H (fun v H' => ∃ n : Int, v = .int n ∧ (0 ≤ n ∧ n < 2 ^ 63) ∧ Q (.int n) H') fun _ _ _ => False := ⟨rfl, [d], S, m, .cons r1 .nil, si, by
              cases q2 : fm [d] S with
              | stuck => simp only [q2] at h; exact h
              | exc c fs S2 => simp only [q2] at h; exact h.elim
              | ok r S2 =>
                simp only [q2] at h
                intro v m' H' e' s' r'
                cases r' with
                | int n =>
                  simp only at h
                  by_cases hn : 0 ≤ n ∧ n < 2 ^ 63
                  · rw [if_pos hn] at h
                    exact ⟨n, rfl, hn, h _ m' H' e' s' (.int n)⟩
                  · rw [if_neg hn] at h; exact h.elim
                | _ => exact h.elim⟩
            have hlen : ([Value.ref a] : List Value).length = ps.length := F.len _ _ _ _ hsp
            have b := hb s [.ref a] I.kIn (by rw [List.append_nil]; exact hlen)
            rw [List.append_nil] at b
            refine wpAny_call (codeAny_mono (F.run X.A.in1 X.stack s H ⟨[.ref a], []⟩ [.ref a] [.ref a] _ (fun _ _ _ => False) B.gd (B.room.mono hk).in1 I.env0.in1 b (.cons rfl .nil) hsp) fun r s' hq => ?_)
            cases r with
            | error er =>
              obtain ⟨_, _, _, _, _, _, _, _, _, _, _, _, z⟩ := hq
              exact z.elim
            | ok fl =>
              cases fl with
              | ret u =>
                obtain ⟨v, H', I3, rv, n, rfl, hn, q3⟩ := I.after hq
                obtain ⟨t, rfl⟩ := rv
                exact ⟨hn, .int n, H', I3.tok _, ⟨_, rfl⟩, q3⟩
              | next => exact hq.elim
              | brk => exact hq.elim
              | cont => exact hq.elim
        · rw [if_neg hc] at h; exact h.elim

/-! ### methods that change a list; texts -/
def mBM (f : D → List D → Sto → Option (D × Sto)) (ok : D → Sto → Bool) (mo : EM) (mr : AM) : EM := fun en S => (mo en S).bind fun d S1 => if ok d S1 = true then (mr en S1).bind fun ds S2 => (match f d ds S2 with
  | some r => .ok r.1 r.2
  | none => .stuck) else .stuck
def rBM (K : PySem.W.Frag) (f : D → List D → Sto → Option (D × Sto)) : V → List V → Hp → VK → Prop := fun x xs H Q => ∃ d ds S m r, Sim K m S H ∧ Rep K m H x d ∧ Reps K m H xs ds ∧ f d ds S = some r ∧ ∀ v H', Ext m H m H' → Sim K m r.2 H' → Rep K m H' v r.1 → Q v H'
theorem e_bm {T id : String} {name : Str} {o e : Expr} {es : List Expr} {mo : EM} {mr : AM} {apos cpos : Pos} {f : D → List D → Sto → Option (D × Sto)} {ok : D → Sto → Bool} (pa : PlainAttrs T) (slot : Slot T name id) (hty : typeOf (.builtin id) = pure (.type "method_descriptor")) (hm : MtR X id (rBM X.K f))
    (htv : ∀ (m : Mp) (H : Hp) (S : Sto) (v : V) (d : D), Sim X.K m S H → Rep X.K m H v d → ok d S = true → tyV X.K T v H) (ho : PE X o (tE X.K W mo)) (ha : PA X (e :: es) (tA X.K W mr))
    (h1 : attributeBase o name X.env (eval o X.env) = eval o X.env := by rfl)
    (h2 : ((((backTo cpos (starEach (e :: es) X.env)).all fun x => !x.fst) && (backToKw cpos (keywordEach [] X.env)).all fun x => x.fst.isSome) && decide (((e :: es).length + ([] : List Keyword).length + if ([] : List Keyword).isEmpty = true then 0 else 1) < 30)) = true := by rfl)
    (h3 : (apos.endLine == cpos.line) = true := by rfl) (h4 : starEach (e :: es) X.env = (false, eval e X.env) :: starEach es X.env := by rfl) (h5 : (backTo cpos (starEach es X.env)).any (·.1) = false := by rfl) :
    PE X (.Call (.Attribute o name apos) (e :: es) [] cpos) (tE X.K W (mBM f ok mo mr)) := by
  refine PE.imp (pe_bm pa slot hty hm ho ha h1 h2 h3 h4 h5) ?_
  rintro σ H Q ⟨en, S, m, er, si, h⟩
  refine ⟨en, S, m, er, si, (PostG.bind (R := Rep X.K) h).mono ?_⟩
  rintro v H1 ⟨d, S1, m1, e1, s1, r1, h1⟩
  by_cases hk : ok d S1 = true
  · rw [if_pos hk] at h1
    refine ⟨htv m1 H1 S1 v d s1 r1 hk, en, S1, m1, er.to e1, s1, (PostG.bind (R := Reps X.K) h1).mono ?_⟩
    rintro vs H2 ⟨ds, S2, m2, e2, s2, r2, h2⟩
    cases q : f d ds S2 with
    | none => rw [q] at h2; exact h2.elim
    | some r =>
      rw [q] at h2
      exact ⟨d, ds, S2, m2, r, s2, r1.to e2, r2, q, fun z H3 e3 s3 r3 => h2 z m2 H3 e3 s3 r3⟩
  · rw [if_neg hk] at h1; exact h1.elim
def okLst (d : D) (S : Sto) : Bool := (lstOf d S).isSome
theorem tv_lst (m : Mp) (H : Hp) (S : Sto) (v : V) (d : D) (si : Sim X.K m S H) (r : Rep X.K m H v d) (h : okLst d S = true) : tyV X.K "list" v H := by
  unfold okLst at h
  cases q : lstOf d S with
  | none => rw [q] at h; cases h
  | some l =>
    obtain ⟨a, vs, rfl, h1, _⟩ := lst_at si r q
    exact .inl ⟨rfl, vs, .inl (.inl h1)⟩
def fAppend : D → List D → Sto → Option (D × Sto)
  | .ref i, [d], S => match S[i]? with
    | some (.lst l) => if l.length < lineN then some (.non, S.set i (.lst (l ++ [d]))) else none
    | _ => none
  | _, _, _ => none
theorem m_append : MtR X "list.append" (rBM X.K fAppend) := by
  intro pins s σ H x xs v us Q I rx rxs ⟨d, ds, S, m, r, si, hx, hxs, hf, hq⟩
  unfold fAppend at hf
  split at hf
  · rename_i i c
    split at hf
    · rename_i l q
      by_cases hl : l.length < lineN
      · rw [if_pos hl] at hf
        cases hf
        cases hx with
        | ref hi =>
          rename_i a
          cases hxs with
          | cons r1 r2 =>
            rename_i y ys
            cases r2
            obtain ⟨vs, g1, g2⟩ := si.cell i a _ hi q
            refine mt_append pins s σ H _ _ v us Q I rx rxs ⟨a, vs, y, rfl, rfl, g1, by rw [g2.len, ← line_eq]; exact hl, ?_⟩
            have e : Ext m H m (upd H a (.lst (vs ++ [y]))) := Ext.put si (List.mem_of_getElem? hi) (nfz g1)
            exact hq _ _ e (si.put hi ⟨_, upd_same, (g2.app (.cons r1 .nil)).to e⟩ (nfz g1)) .non
      · rw [if_neg hl] at hf; cases hf
    · cases hf
  · cases hf
def fPopAt : D → List D → Sto → Option (D × Sto)
  | .ref i, [.int j], S => match S[i]? with
    | some (.lst l) => (ixN l.length j).bind fun k => l[k]?.map fun d => (d, S.set i (.lst (l.eraseIdx k)))
    | _ => none
  | _, _, _ => none
theorem m_popAt : MtR X "list.pop" (rBM X.K fPopAt) := by
  intro pins s σ H x xs v us Q I rx rxs ⟨d, ds, S, m, r, si, hx, hxs, hf, hq⟩
  unfold fPopAt at hf
  split at hf
  · rename_i i j
    split at hf
    · rename_i l q
      cases q1 : ixN l.length j with
      | none => rw [q1] at hf; cases hf
      | some k =>
        rw [q1] at hf
        cases q2 : l[k]? with
        | none => simp only [Option.bind_some, q2] at hf; cases hf
        | some c =>
          simp only [Option.bind_some, q2, Option.map_some] at hf
          cases hf
          cases hx with
          | ref hi =>
            rename_i a
            cases hxs with
            | cons r1 r2 =>
              cases r1; cases r2
              obtain ⟨vs, g1, g2⟩ := si.cell i a _ hi q
              obtain ⟨y, g3, g4⟩ := g2.get q2
              obtain ⟨b1, b2, b3, b4⟩ := ixN_seq q1
              have hz : l.length ≤ sizeLine := by
                obtain ⟨z, _⟩ := (show ObjOk X.prog X.w H s.heap a (.lst vs) from I.hok a _ g1)
                rw [← g2.len]; exact z
              have hsl := sizeLine_eq
              refine mt_popAt pins s σ H _ _ v us Q I rx rxs ⟨a, vs, j, k, y, rfl, rfl, g1, by omega, by omega, by rw [g2.len]; exact b1, g3, ?_⟩
              have e : Ext m H m (upd H a (.lst (vs.eraseIdx k))) := Ext.put si (List.mem_of_getElem? hi) (nfz g1)
              exact hq _ _ e (si.put hi ⟨_, upd_same, (g2.erase k).to e⟩ (nfz g1)) (g4.to e)
    · cases hf
  · cases hf
/-! ### what is never come to; a try that runs through -/
def sStuck : SM := fun _ _ => .stuck
theorem s_never {st : Stmt} : PS X st (tS X.K W sStuck) := PS.imp ps_never fun E σ H ⟨_, _, _, _, _, h⟩ => h
def sTryQ (b : SM) : SM := fun en S => match b en S with
  | .exc _ _ _ _ => .stuck
  | r => r
theorem bd_nox (B : Bd X W j) : Bd X.nox W0 j := ⟨takes0N, PassesOwn.never, B.calm, B.room, B.gd⟩
theorem s_tryQ {body : List Stmt} {h0 : ExceptHandler} {hs : List ExceptHandler} {b : SM} {pos : Pos} (hb : PSs X.nox body (tS X.K W0 b)) : PS X (.Try body (h0 :: hs) [] [] pos) (tS X.K W (sTryQ b)) := by
  refine PS.imp (ps_try_thru0 hb) ?_
  rintro E σ H ⟨en, S, m, er, si, h⟩
  refine ⟨en, S, m, er, si, ?_⟩
  unfold sTryQ at h
  cases q : b en S with
  | exc c fs en1 S1 => rw [q] at h; exact h.elim
  | _ => rw [q] at h; exact h
end
end Ag

namespace Ag
open PySem L2
section
variable {X : Cx} {W : WX} {e : Expr} {es : List Expr} {pos : Pos} {mr : AM}
/-! ### a, b = x, y -/
def lS (r : Res (List D)) (en : En) (k : List D → Sto → SRes) : SRes := match r with
  | .ok d S => k d S
  | .exc c fs S => .exc c fs en S
  | .stuck => .stuck
theorem lS_to {m : Mp} {H : Hp} {σ : L2.St} {r : Res (List D)} {en : En} {k : List D → Sto → SRes} {E : Ends} (er : EnvR X.K m H σ en) (h : SPost X.K W m H (lS r en k) E) :
    PostL X.K W σ m H r (fun v H1 => ∃ d S1 m1, Ext m H m1 H1 ∧ Sim X.K m1 S1 H1 ∧ Reps X.K m1 H1 v d ∧ SPost X.K W m1 H1 (k d S1) E) := by
  cases r with
  | ok d S => exact fun v m1 H1 e s r1 => ⟨d, S, m1, e, s, r1, h.to e⟩
  | exc c fs S => exact fun od m1 H1 e s x => h σ od m1 H1 e s (er.to e) x
  | stuck => exact h
def sPar (i j : Nat) (mr : AM) : SM := fun en S => lS (mr en S) en fun ds S1 => match ds with
  | [a, b] => .next ((en.set i (some a)).set j (some b)) S1
  | _ => .stuck
def sPar3 (i j l : Nat) (mr : AM) : SM := fun en S => lS (mr en S) en fun ds S1 => match ds with
  | [a, b, c] => .next (((en.set i (some a)).set j (some b)).set l (some c)) S1
  | _ => .stuck
theorem s_par {i j : Nat} {x y : Str} {a b : Expr} {px py pt : Pos} {kt k2 pt2} (hc : X.calm = true) (hN : X.N.Nodup) (hi : X.N[i]? = some x) (hj : X.N[j]? = some y) (hij : i ≠ j)
    (hx : X.env.scope.names.lookup x = some .local) (hy : X.env.scope.names.lookup y = some .local) (ha : PA X [a, b] (tA X.K W mr))
    (hw : swappedStores [.Tuple [.Name x px, .Name y py] kt pt] (.Tuple [a, b] k2 pt2) X.env = pure (some [x, y]))
    (hs : swapsWithSole [.Tuple [.Name x px, .Name y py] kt pt] (.Tuple [a, b] k2 pt2) pos.line X.env = pure false := by rfl) :
    PS X (.Assign [.Tuple [.Name x px, .Name y py] kt pt] (.Tuple [a, b] k2 pt2) pos) (tS X.K W (sPar i j mr)) := by
  refine PS.imp (ps_par hc hN hi hj hij hx hy ha hw hs) ?_
  rintro E σ H ⟨en, S, m, er, si, h⟩
  refine ⟨en, S, m, er, si, (lS_to er h).mono ?_⟩
  rintro v H1 ⟨d, S1, m1, e1, s1, r1, h1⟩
  cases r1 with
  | nil => exact h1.elim
  | cons p1 q1 =>
    cases q1 with
    | nil => exact h1.elim
    | cons p2 q2 =>
      cases q2 with
      | cons p3 q3 => exact h1.elim
      | nil => exact ⟨_, _, rfl, h1 _ m1 H1 .refl s1 (((er.to e1).set p1).set p2)⟩
end
end Ag

namespace Ag
open PySem PySem.Spec PyProof.Rows L2
/-! ### the law's end, for promises that want no repr around them -/
theorem law_G {Pg : Program} {wd : World} {Kf : PySem.W.Frag} {gm bm : Str → Option Value} {lv : Nat} {fa sa : Addr} {fd : FuncData} {par : Str} {pr : Sp} {t : Shared} {us : List Value} {ns : List Int}
    (kin : Kf.In t.heap) (gns : t.heap.Ns mainGlobals gm) (bns : t.heap.Ns builtinsNs bm) (bbt : ∀ z : Str, z ≠ "__name__" → bm z = bootBuiltins z) (nol : t.heap.NoLimit) (gens : t.gens = #[])
    (obj : t.heap.get? sa = some { cls := .type "list", data := .seq us.toArray }) (isn : IntsAre us ns) (len : ns.length ≤ sizeLine) (room : Room lv callerA)
    (prom : ∀ low : Heap, Kf.In low → low.Ns mainGlobals gm → FnG Pg wd Kf gm low lv fa fd [par] pr) (bind : ∀ (z : Shared) (u : Value), BindsTo z fd ⟨[u], []⟩ [(par, u)])
    (good : ∀ A : Hp, Only A → SqL Kf A sa (ns.map V.int) → pr [.ref sa] A (fun v _ => v = .bl true) fun _ _ _ => False) :
    codeAny (model Pg wd) callerA (.call (.ref fa) ⟨[.ref sa], []⟩) (fun r z => r = .ok (.ret (.bool true)) ∧ OldK t.heap z.heap ∧ z.os = t.os ∧ AllBare z.gens) t := by
  have start : ∀ A : Hp, Only A → SqL Kf A sa (ns.map V.int) → HOk Pg wd A t.heap → (∀ c, A c ≠ none → c = sa) → (A sa ≠ none → Kf.lookup sa = none) →
      codeAny (model Pg wd) callerA (.call (.ref fa) ⟨[.ref sa], []⟩) (fun r z => r = .ok (.ret (.bool true)) ∧ OldK t.heap z.heap ∧ z.os = t.os ∧ AllBare z.gens) t := by
    intro A only sq ok one alien
    have stay : ∀ {c : Addr} {u : Obj}, t.heap.get? c = some u → A c = none → (hidT t.heap A).get? c = some u := fun e n => hidT_get e n
    have dictOut : ∀ {c : Addr} {u : Obj} {es : Array DictEntry} {n : Nat}, t.heap.get? c = some u → u.data = .dict es n → A c = none := fun {c u es n} e d => by
      cases q : A c with
      | none => rfl
      | some z =>
        obtain rfl : c = sa := one c (by rw [q]; simp)
        rw [obj] at e; cases e
        nomatch (show Data.seq us.toArray _ = Data.dict es n from d)
    have under : ∀ {c : Addr} {g : Str → Option Value}, t.heap.Ns c g → (hidT t.heap A).Ns c g := fun {c g} ⟨u, es, n, e, d, r⟩ => ⟨u, es, n, stay e (dictOut e d), d, r⟩
    have kin2 : Kf.In (hidT t.heap A) := fun c u e => stay (kin c u e) (by
      cases q : A c with
      | none => rfl
      | some z =>
        obtain rfl : c = sa := one c (by rw [q]; simp)
        rw [alien (by rw [q]; simp)] at e; cases e)
    obtain ⟨lc, n1, n2⟩ := nol
    have md : Mod Kf gm (hidT t.heap A) := ⟨kin2, under gns, ⟨bm, under bns, bbt⟩, lc, under n1, n2⟩
    have ev : Env0 Pg wd Kf gm (hidT t.heap A) callerA [] t A := ⟨rfl, md, fun c u e => of_hidT e, Nat.le_of_eq (hidT_size _ _), trivial, fun c hc => (nomatch (show c ∈ ([] : List Addr) from hc)), ok, .of_eq gens⟩
    refine codeAny_mono ((prom _ kin2 (under gns)).run callerA [] t A ⟨[.ref sa], []⟩ [.ref sa] [.ref sa] _ _ rfl room ev (bind t (.ref sa)) (.cons rfl .nil) (good A only sq)) fun r z h => ?_
    cases r with
    | error e =>
      obtain ⟨_, _, _, _, _, _, _, _, _, _, _, _, no⟩ := (show L2N.CX Pg wd [] A t (fun _ _ _ => False) e z from h)
      exact no.elim
    | ok fl =>
      cases fl with
      | next => exact False.elim h
      | brk => exact False.elim h
      | cont => exact False.elim h
      | ret u =>
        obtain ⟨v, A2, os, bare, un, ok2, rel, q⟩ := h
        obtain rfl : v = .bl true := q
        obtain rfl : u = Value.bool true := rel
        refine ⟨rfl, OldK.of_keep fun c o e => ?_, os, bare⟩
        cases q : A c with
        | none => exact un.keep c o e q (fun y => nomatch (show c ∈ ([] : List Addr) from y)) (by simp)
        | some z2 =>
          rcases only c with y | ⟨ob, xs, y⟩
          · rw [q] at y; cases y
          · obtain ⟨e1, _⟩ := ok c _ y
            obtain ⟨e2, _⟩ := ok2 c _ (un.frzs c ob _ y)
            rw [e] at e1; cases e1
            exact e2
  cases hk : Kf.lookup sa with
  | some o =>
    have e := kin sa o hk
    rw [obj] at e
    cases e
    exact start (fun _ => none) (fun _ => .inl rfl) (.inr ⟨_, us.toArray, _, hk, rfl, rfl, rfl, by rw [List.size_toArray, isn.length]; exact len, by simpa using vals_ints isn⟩) (fun c u y => nomatch (show (none : Option HO) = some u from y)) (fun c y => absurd rfl y) fun y => absurd rfl y
  | none =>
    refine start (fun c => if c = sa then some (.frz { cls := .type "list", data := .seq us.toArray } (.lst (ns.map V.int))) else none) (fun c => ?_) (.inl (.inr ⟨{ cls := .type "list", data := .seq us.toArray }, if_pos rfl⟩)) (fun c u y => ?_) (fun c y => ?_) fun _ => hk
    all_goals by_cases hc : c = sa
    · exact .inr ⟨_, _, if_pos hc⟩
    · exact .inl (if_neg hc)
    · have y2 := (if_pos hc).symm.trans y
      cases y2
      subst hc
      exact ⟨obj, by rw [List.length_map]; exact len, us, _, vals_ints isn, obj⟩
    · nomatch (if_neg hc).symm.trans y
    · exact hc
    · exact absurd (if_neg hc) y
theorem walk_G {l : PySem.W.OpenLaw} {n lv : Nat} {q : Program} {loose : List Str} {XP : (Str → Option Value) → Heap → Prop} {YP : World → Heap → Prop} {d : DefRec} {par : Str}
    (hn : l.most = some n) (hn2 : n ≤ sizeLine) (hdf : d.params.defaults = []) (hr : Room lv callerA)
    (F : ∀ (wd : World) (gm : Str → Option Value) (fa : Addr) (h : Heap), YP wd h → h.Ns mainGlobals gm → gm d.name = some (.ref fa) →
      ∃ (Kf : PySem.W.Frag) (fd : FuncData) (pr : Sp), Kf.In h ∧ (∀ (s : Shared) (u : Value), BindsTo s fd ⟨[u], []⟩ [(par, u)]) ∧
        (∀ (A : Hp) (a : Addr) (ns : List Int), ns.length ≤ n → Only A → SqL Kf A a (ns.map V.int) → pr [.ref a] A (fun v _ => v = .bl true) fun _ _ _ => False) ∧
        ∀ low : Heap, Kf.In low → low.Ns mainGlobals gm → FnG l.prog wd Kf gm low lv fa fd [par] pr) :
    PySem.W.WalkO q loose XP YP l.row.toRowW d [] (fun f vs => PySem.call f vs) := by
  refine Att.attach_call hn hdf fun w s₀ s₁ gm bm fa o pm cd doc a vs ns G Y ho hd hcd hmg hobj hints hlen hg => ?_
  obtain ⟨Kf, fd, pr, KX, hb, hsp, hF⟩ := F w gm fa _ Y G.T.g hmg
  exact law_G KX G.T.g G.T.b G.T.builtins G.T.nolimit hg hobj hints (Nat.le_trans hlen hn2) hr hF hb fun A hO hS => hsp A a ns hlen hO hS
/-- the promise at the script -/
theorem law_sp {K : PySem.W.Frag} {f : List D → Sto → Res D} (h : ∀ ns : List Int, ns.length ≤ 63 → ∃ S, f [.scr (ns.map .int)] [] = .ok (.bl true) S) {A : Hp} {a : Addr} {ns : List Int} (hl : ns.length ≤ 63) (ho : Only A) (sq : SqL K A a (ns.map V.int)) :
    spOf K 1 f [.ref a] A (fun v _ => v = .bl true) fun _ _ _ => False := by
  obtain ⟨S, e⟩ := h ns hl
  have ri : ∀ l : List Int, Reps K ⟨[], []⟩ A (l.map V.int) (l.map D.int) := fun l => by
    induction l with
    | nil => exact .nil
    | cons i l ih => exact .cons (.int i) ih
  refine ⟨rfl, [.scr (ns.map .int)], [], ⟨[], []⟩, .cons (.scr ?_ (ri ns)) .nil, ⟨rfl, List.nodup_nil, fun i a o z => (by simp at z), fun a z => (by simp at z), fun a z => (by simp at z)⟩, ?_⟩
  · rcases sq with (q | q) | q
    · rcases ho a with z | ⟨o, xs, z⟩
      · rw [z] at q; cases q
      · rw [z] at q; cases q
    · exact .inl q
    · exact .inr fun _ => .inr q
  · rw [e]
    intro v m' H' _ _ r
    cases r with
    | bl b => rfl
end Ag

namespace Ag
open PySem PySem.Spec PyProof.Rows L2
section
variable {X : Cx} {W : WX} {e : Expr} {es : List Expr} {pos : Pos} {mr : AM}
/-! ### short words for a program that prints walks -/
theorem vr (i : Nat) {x : Str} (hN : X.N[i]? = some x := by rfl) (hv : Vis X.env.scope x := by first | exact Or.inl rfl | exact Or.inr (Or.inl rfl) | exact Or.inr (Or.inr rfl)) (hd : (x == ("__debug__" : Str)) = false := by decide) (hcd : (x == ("__classdict__" : Str)) = false := by decide) :
    PE X (.Name x pos) (tE X.K W (mVar i)) := e_var hN hv hd hcd
theorem k_int {i : Int} {j} : PE X (.Constant (.int i) j pos) (tE X.K W (mC (.int i))) := e_c pe_int fun _ _ => .int i
theorem k_bl {b : Bool} {j} : PE X (.Constant (.bool b) j pos) (tE X.K W (mC (.bl b))) := e_c pe_bl fun _ _ => .bl b
theorem k_non {j} : PE X (.Constant .none j pos) (tE X.K W (mC .non)) := e_c pe_non fun _ _ => .non
theorem k_str {x : Str} {j} : PE X (.Constant (.str x) j pos) (tE X.K W (mC (.str x))) := e_c pe_str fun _ _ => .str x
theorem g_int {x : Str} {i : Int} (h : ∃ t, X.mg x = some (.int i t)) (hg : Gl X x := by rfl) (hd : (x == ("__debug__" : Str)) = false := by decide) : PE X (.Name x pos) (tE X.K W (mC (.int i))) := by
  obtain ⟨t, h⟩ := h
  exact e_c (pe_glob (v := .int i) hg h ⟨t, rfl⟩ hd) fun _ _ => .int i
theorem g_str {x z : Str} (h : ∃ t, X.mg x = some (.str z t)) (hg : Gl X x := by rfl) (hd : (x == ("__debug__" : Str)) = false := by decide) : PE X (.Name x pos) (tE X.K W (mC (.str z))) := by
  obtain ⟨t, h⟩ := h
  exact e_c (pe_glob (v := .str z) hg h ⟨t, rfl⟩ hd) fun _ _ => .str z
theorem g_cls {x : Str} (h : X.mg x = some (.ref (He.ga X.K x))) (hg : Gl X x := by rfl) (hd : (x == ("__debug__" : Str)) = false := by decide) : PE X (.Name x pos) (tE X.K W (mC (.gl x))) :=
  e_c (pe_glob (v := .ref (He.ga X.K x)) hg h rfl hd) fun _ _ => .gl x
theorem g_ty {x : Str} {T : String} (hm : X.mg x = none) (hv : bootBuiltins x = some (.type T)) (hg : Gl X x := by rfl) (hn : x ≠ "__name__" := by decide) (hd : (x == ("__debug__" : Str)) = false := by decide) : PE X (.Name x pos) (tE X.K W (mC (.ty T))) :=
  e_c (pe_bltn (v := .ty T) hg hm hv rfl hn hd) fun _ _ => .ty T
def dvD : He.Dv → Option D
  | .non => some .non
  | .bl b => some (.bl b)
  | .int i => some (.int i)
  | .str x => some (.str x)
  | _ => none
theorem reps_dv {K : PySem.W.Frag} {m : Mp} {H : Hp} : ∀ {vs : List He.Dv} {ds : List D}, vs.map dvD = ds.map some → Reps K m H (vs.map (He.Dv.v K)) ds
  | [], [], _ => .nil
  | [], _ :: _, h => by simp at h
  | _ :: _, [], h => by simp at h
  | v :: vs, d :: ds, h => by
    simp only [List.map_cons, List.cons.injEq] at h
    refine .cons ?_ (reps_dv h.2)
    have h1 := h.1
    cases v <;> simp only [dvD, Option.some.injEq, reduceCtorEq] at h1 <;> subst h1
    · exact .non
    · exact .bl _
    · exact .int _
    · exact .str _
theorem g_tup {x : Str} {vs : List He.Dv} {ds : List D} (h : X.mg x = some (.ref (He.ga X.K x))) (hb : He.tupB X.K x vs = true) (hd : vs.map dvD = ds.map some := by rfl) (hg : Gl X x := by rfl) (hdb : (x == ("__debug__" : Str)) = false := by decide) (hn : names ds = false := by rfl) : PE X (.Name x pos) (tE X.K W (mC (.tup ds))) :=
  e_c (pe_glob (v := .ref (He.ga X.K x)) hg h rfl hdb) fun m H => .tup (He.tupB_ok hb H) (fun z => by rw [hn] at z; cases z) (reps_dv hd)
theorem kwb_of {K : PySem.W.Frag} {x qual : Str} {params : Arguments} {body : List Stmt} {scope : Scope} {f : Addr} {fd : FuncData} {ps : List Str} (F : FunD K x qual params body scope [] [] f fd) (ks : List Str) (ix : List Nat)
    (h : ∀ (kV doc pm : Value) (an : Option Addr) (cdv ct : Value) (ws : List Value), ws.length = ks.length → bindArgs (PySem.W.fnOf x qual params body scope .none kV doc pm an cdv ct) ⟨[], ks.zip ws⟩ = pure (ps.zip (pick ix ws))) : KwB K fd ps ks ix id := by
  obtain ⟨oc, od, dV, kV, doc, pm, an, cdv, ct, osl, rfl, lk, hcd, hD, hK⟩ := F.ex
  rcases hD with ⟨_, rfl⟩ | ⟨e, _⟩
  · intro s ws _ hl
    exact .of_eq (h kV doc pm an cdv ct ws hl)
  · exact absurd rfl e
end
/-! ### facts by a Bool of one's own -/
def propB (K : PySem.W.Frag) (c f : Str) (g : Addr) : Bool := match PySem.W.findIn K (.ref (He.ga K c)) f with
  | some (some (.ref p)) => decide (PySem.W.specialIn K (.ref p) "__get__" = some (some (.builtin "property.__get__"))) && (decide (PySem.W.takesIn K (.ref p) = some true) && (match PySem.W.recIn K p "property" with
    | some (v :: _) => decide (v = .ref g)
    | _ => false))
  | _ => false
theorem propB_ok {K : PySem.W.Frag} {c f : Str} {g : Addr} (h : propB K c f g = true) : ∃ p, PropOf K (He.ga K c) f p g := by
  unfold propB at h
  split at h
  · rename_i p q
    obtain ⟨h1, h2⟩ := He.ba h
    obtain ⟨h3, h4⟩ := He.ba h2
    refine ⟨p, q, of_decide_eq_true h1, of_decide_eq_true h3, ?_⟩
    split at h4
    · rename_i v r q2
      have e := of_decide_eq_true h4
      subst e
      exact ⟨r, q2⟩
    · cases h4
  · cases h
def prG (K : PySem.W.Frag) (c f : Str) : Addr := match PySem.W.findIn K (.ref (He.ga K c)) f with
  | some (some (.ref p)) => (match PySem.W.recIn K p "property" with
    | some (.ref g :: _) => g
    | _ => 0)
  | _ => 0
def ownB (K : PySem.W.Frag) (c : Str) : Bool := (He.Fa.ok K (.cls c)) && (decide (PySem.W.findIn K (.ref (He.ga K c)) "__class__" = some (some (.builtin "object.__class__"))) &&
  (decide (PySem.W.specialIn K (.builtin "object.__class__") "__get__" = some (some (.builtin "getset_descriptor.__get__"))) && (decide (PySem.W.takesIn K (.builtin "object.__class__") = some true) && decide (PySem.W.mroIn K (He.ga K c) (.type "object") = some true))))
def isoB (K : PySem.W.Frag) (cs : List Str) (tab : List (Ty × Ty × Bool)) : Bool := cs.all (ownB K) && tab.all fun r => decide (PySem.W.kitOne K (r.1.val K) (r.2.1.val K) = some r.2.2)
theorem isoB_ok {K : PySem.W.Frag} {cs : List Str} {tab : List (Ty × Ty × Bool)} (h : isoB K cs tab = true) : Iso K cs tab := by
  obtain ⟨h1, h2⟩ := He.ba h
  refine ⟨fun c hc => ?_, fun r hr => of_decide_eq_true (List.all_eq_true.mp h2 r hr)⟩
  obtain ⟨a1, a2⟩ := He.ba (List.all_eq_true.mp h1 c hc)
  obtain ⟨a2, a3⟩ := He.ba a2
  obtain ⟨a3, a4⟩ := He.ba a3
  obtain ⟨a4, a5⟩ := He.ba a4
  exact ⟨He.cls_ok a1, of_decide_eq_true a2, of_decide_eq_true a3, of_decide_eq_true a4, of_decide_eq_true a5⟩
def lenB (K : PySem.W.Frag) (c : Str) : Bool := He.eqO (PySem.W.findIn K (.ref (He.ga K c)) "__len__") (some (some (.ref (He.ma K (He.ga K c) "__len__")))) && PySem.W.isFn K (.ref (He.ma K (He.ga K c) "__len__"))
/-! ### the facts told by the head: defs at addresses of one's own -/
structure Df where
  loc : PySem.W.Frag → Addr
  name : Str
  qual : Str
  params : Arguments
  body : List Stmt
  scope : Scope
def fnSeen (K : PySem.W.Frag) (a : Addr) : He.FnW := match K.lookup a with
  | some ⟨_, _, .func z, _⟩ => some (z.name, z.qualname, z.params, z.body, z.scope, z.globals, z.closure, z.builtins)
  | _ => none
def Df.due (d : Df) : He.FnW := some (d.name, d.qual, d.params, .stmts d.body, d.scope, mainGlobals, [], builtinsNs)
def isNo : Value → Bool
  | .none => true
  | _ => false
theorem isNo_ok {v : Value} (h : isNo v = true) : v = .none := by cases v <;> first | rfl | cases h
def Df.good (K : PySem.W.Frag) (d : Df) : Bool := PySem.W.keepIn K (.ref (d.loc K)) && (match K.lookup (d.loc K) with
  | some ⟨_, _, .func z, _⟩ => PySem.W.codeIn K z.code d.qual && isNo z.defaults
  | _ => false)
abbrev FnAt (K : PySem.W.Frag) (d : Df) (fd : FuncData) : Prop := FunD K d.name d.qual d.params d.body d.scope [] [] (d.loc K) fd
theorem Df.fun_ {K : PySem.W.Frag} {d : Df} (e : fnSeen K (d.loc K) = d.due) (c : d.good K = true) : ∃ fd, FnAt K d fd := by
  obtain ⟨kp, c⟩ := He.ba c
  unfold fnSeen Df.due at e
  split at e
  · rename_i oc od z osl q
    rw [q] at c
    obtain ⟨c1, c2⟩ := He.ba c
    obtain ⟨z1, z2, z3, z4, z5, z6, z7, z8, z9, z10, z11, z12, z13, z14, z15⟩ := z
    simp only [Option.some.injEq, Prod.mk.injEq] at e
    obtain ⟨rfl, rfl, rfl, rfl, rfl, rfl, rfl, rfl⟩ := e
    obtain rfl := isNo_ok c2
    exact ⟨_, ⟨oc, od, .none, z9, z10, z11, z12, z13, z14, osl, rfl, q, c1, .inl ⟨rfl, rfl⟩, .inl rfl⟩, kp⟩
  · cases e
abbrev Seen : Type := Bool × List He.FnW
def seenK (fa : List He.Fa) (fn : List Df) (ex : PySem.W.Frag → Bool) (K : PySem.W.Frag) : Seen := ((fa.all fun f => f.ok K) && (fn.all fun d => d.good K) && ex K, fn.map fun d => fnSeen K (d.loc K))
structure Told (fa : List He.Fa) (fn : List Df) (ex : PySem.W.Frag → Bool) (K : PySem.W.Frag) : Prop where
  fa : ∀ f ∈ fa, f.ok K = true
  fn : ∀ d ∈ fn, ∃ fd, FnAt K d fd
  ex : ex K = true
theorem told_of {fa : List He.Fa} {fn : List Df} {ex : PySem.W.Frag → Bool} {K : PySem.W.Frag} (h : seenK fa fn ex K = (true, fn.map Df.due)) : Told fa fn ex K := by
  have h1 := congrArg Prod.fst h
  have h2 := congrArg Prod.snd h
  simp only [seenK, Bool.and_eq_true, List.all_eq_true] at h1 h2
  refine ⟨h1.1.1, fun d hd => Df.fun_ ?_ (h1.1.2 d hd), h1.2⟩
  obtain ⟨i, hi, e⟩ := List.mem_iff_getElem.mp hd
  have h3 := congrArg (fun l : List He.FnW => l[i]?) h2
  simp only [List.getElem?_map, List.getElem?_eq_getElem hi, e, Option.map_some, Option.some.injEq] at h3
  exact h3
/-- facts and the module's names -/
structure Kn (fa : List He.Fa) (fn : List Df) (ex : PySem.W.Frag → Bool) (K : PySem.W.Frag) (mg : Str → Option Value) : Prop where
  t : Told fa fn ex K
  glo : ∀ (i : Nat) {x : Str}, fa[i]? = some (.glo x) → mg x = some (.ref (He.ga K x))
  free : ∀ (i : Nat) {x : Str}, fa[i]? = some (.free x) → mg x = none
  int : ∀ (i : Nat) {x : Str} {j : Int}, fa[i]? = some (.int x j) → ∃ t, mg x = some (.int j t)
  str : ∀ (i : Nat) {x z : Str}, fa[i]? = some (.str x z) → ∃ t, mg x = some (.str z t)
theorem kn_of {fa : List He.Fa} {fn : List Df} {ex : PySem.W.Frag → Bool} {K : PySem.W.Frag} {mg : Str → Option Value} {h : Heap} (X : K.In h) (G : h.Ns mainGlobals mg) (t : Told fa fn ex K) : Kn fa fn ex K mg :=
  ⟨t, fun i x e => He.glo_ok X G (t.fa _ (List.mem_of_getElem? e)), fun i x e => He.free_ok X G (t.fa _ (List.mem_of_getElem? e)), fun i x j e => He.int_ok X G (t.fa _ (List.mem_of_getElem? e)), fun i x z e => He.str_ok X G (t.fa _ (List.mem_of_getElem? e))⟩
section
variable {fa : List He.Fa} {fn : List Df} {ex : PySem.W.Frag → Bool} {K : PySem.W.Frag} {mg : Str → Option Value}
theorem Kn.df (C : Kn fa fn ex K mg) (i : Nat) {d : Df} (e : fn[i]? = some d) : ∃ fd, FnAt K d fd := C.t.fn d (List.mem_of_getElem? e)
theorem Kn.ok (C : Kn fa fn ex K mg) (i : Nat) {f : He.Fa} (e : fa[i]? = some f) : f.ok K = true := C.t.fa f (List.mem_of_getElem? e)
end
end Ag

/-! what the head's check asks of an own class of errors -/
namespace Ag
open PySem PySem.Spec PyProof.Rows L2
/-- own classes, then the built-in base's line -/
def refsB (b : String) : List Value → Bool
  | .ref _ :: r => refsB b r
  | l => l == [.type b, .type "Exception", .type "BaseException", .type "object"]
end Ag

namespace Ag
open PySem PySem.Spec PyProof.Rows L2
def clsBody (s : Stmt) : List Stmt := match s with
  | .ClassDef _ _ _ b _ _ _ _ _ _ _ => b
  | _ => []
theorem same_fd {K : PySem.W.Frag} {d : Df} {fd fd2 : FuncData} (a : FnAt K d fd) (b : FnAt K d fd2) : fd = fd2 := by
  obtain ⟨_, _, _, _, _, _, _, _, _, _, _, e1, _⟩ := a.ex
  obtain ⟨_, _, _, _, _, _, _, _, _, _, _, e2, _⟩ := b.ex
  rw [e1] at e2
  simp only [Option.some.injEq, Obj.mk.injEq, Data.func.injEq] at e2
  exact e2.2.2.1
theorem bt_len : bootBuiltins "len" = some (.builtin "len") := by decide +kernel
theorem bt_abs : bootBuiltins "abs" = some (.builtin "abs") := by decide +kernel
theorem bt_all : bootBuiltins "all" = some (.builtin "all") := by decide +kernel
theorem bt_sum : bootBuiltins "sum" = some (.builtin "sum") := by decide +kernel
theorem bt_max : bootBuiltins "max" = some (.builtin "max") := by decide +kernel
theorem bt_min : bootBuiltins "min" = some (.builtin "min") := by decide +kernel
theorem bt_divmod : bootBuiltins "divmod" = some (.builtin "divmod") := by decide +kernel
theorem bt_repr : bootBuiltins "repr" = some (.builtin "repr") := by decide +kernel
theorem bt_isinstance : bootBuiltins "isinstance" = some (.builtin "isinstance") := by decide +kernel
theorem bt_int : bootBuiltins "int" = some (.type "int") := by decide +kernel
theorem bt_str : bootBuiltins "str" = some (.type "str") := by decide +kernel
theorem bt_bool : bootBuiltins "bool" = some (.type "bool") := by decide +kernel
theorem bt_tuple : bootBuiltins "tuple" = some (.type "tuple") := by decide +kernel
def blkB (N : List Str) (sc scope : Scope) (own : List (Str × Nat)) : Bool := (scope.kind == .function) && (scope.names.all fun y => decide (scope.names.lookup y.1 = some y.2)) && (own.all fun p => decide (N[p.2]? = some p.1)) &&
  (scope.names.all fun y => !decide (y.2 = .free) || (decide (sc.names.lookup y.1 = some .cell) || decide (sc.names.lookup y.1 = some .free))) && (scope.names.all fun y => !(decide (y.2 = .local) || decide (y.2 = .cell)) || (decide (y.1 ∈ own.map (·.1)) || !decide (y.1 ∈ N)))
theorem blk_ok {N : List Str} {sc scope : Scope} {own : List (Str × Nat)} (h : blkB N sc scope own = true) : BlkOk N sc scope own := by
  simp only [blkB, Bool.and_eq_true, List.all_eq_true, decide_eq_true_eq, Bool.or_eq_true, Bool.not_eq_true', decide_eq_false_iff_not, Bool.or_eq_false_iff] at h
  obtain ⟨⟨⟨⟨h1, h2⟩, h3⟩, h4⟩, h5⟩ := h
  refine ⟨?_, h2, h3, fun y hy e => ?_, fun y hy e => ?_⟩
  · revert h1; cases scope.kind <;> first | (intro _; rfl) | (intro z; exact absurd z (by decide))
  · rcases h4 y hy with z | z
    · exact absurd e z
    · exact z
  · rcases h5 y hy with z | z
    · rcases e with e | e
      · exact absurd e z.1
      · exact absurd e z.2
    · exact z
theorem Bd.u64 {X : Cx} {W : WX} {k : Nat} (B : Bd X W k) : X.A.units + 64 < cLine := by have := B.room.un; omega
theorem Bd.u65 {X : Cx} {W : WX} {k : Nat} (B : Bd X W k) : X.A.units + 65 < cLine := by have := B.room.un; omega
theorem one_ {p : Str → Prop} {c : Str} (h : p c) : ∀ x ∈ [c], p x := fun x hx => by
  have e : x = c := by simpa using hx
  rw [e]; exact h
section
variable {X : Cx} {W : WX} {e e2 tg : Expr} {elts : List Expr} {kk : Nat} {pos p tpos : Pos} {ma mr : AM}
def rg1 : List D → Sto → Option ItD := fun ds S => match ds with | [d] => rgOf [d] S | _ => none
def en1 : List D → Sto → Option ItD := fun ds _ => match ds with | [.tup l] => some (enIt l) | [.lst l] => some (enIt l) | _ => none
theorem j_range1 (hg : Gl X "range") (hm : X.mg "range" = none) (ha : PA X [e] (tA X.K W ma)) (hs : starEach [e] X.env = [(false, eval e X.env)] := by rfl) : PI X tg (.Call (.Name "range" p) [e] [] pos) (tI X.K W (mItA rg1 ma)) := i_range1 hg hm ha hs
theorem j_enum (hg : Gl X "enumerate") (hm : X.mg "enumerate" = none) (ha : PA X [e] (tA X.K W ma)) (hs : starEach [e] X.env = [(false, eval e X.env)] := by rfl) : PI X (.Tuple elts kk tpos) (.Call (.Name "enumerate" p) [e] [] pos) (tI X.K W (mItA en1 ma)) := i_enum hg hm ha hs
theorem j_zip (hg : Gl X "zip") (hm : X.mg "zip" = none) (ha : PA X [e, e2] (tA X.K W ma)) (hs : starEach [e, e2] X.env = (false, eval e X.env) :: starEach [e2] X.env := by rfl) (hpl : (backTo pos (starEach [e2] X.env)).any (·.1) = false := by rfl) :
    PI X (.Tuple elts kk tpos) (.Call (.Name "zip" p) [e, e2] [] pos) (tI X.K W (mItA zp2 ma)) := i_zip hg hm ha hs hpl
def mCallK (n : Nat) (ix : List Nat) (fm : List D → Sto → Res D) (mr : AM) : EM := fun en S => (mr en S).bind fun ds S1 => if ds.length = n then (if (pick ix ds).length = n then fm (pick ix ds) S1 else .stuck) else .stuck
end
/-! ### class methods -/
/-! ### a hook that sees the statics too -/
end Ag

/-! what the head's check of tables of code, of errors and of == names -/
namespace Ag
open PySem PySem.Spec PyProof.Rows L2
def bmAr : List Value := [.type "ArithmeticError", .type "Exception", .type "BaseException", .type "object"]
structure Er0 (K : PySem.W.Frag) (c : Str) : Prop where
  ex : PySem.W.excIn K (He.ga K c) bmAr "ArithmeticError.__new__" = true
  sub : PySem.W.subIn K (.ref (He.ga K c)) (.type "BaseException") = some true
  ty : PySem.W.typeIn K (.ref (He.ga K c)) = some (.type "type")
  me : PySem.W.exmOne K (.ref (He.ga K c)) (.ref (He.ga K c)) = some true
  kp : PySem.W.keepIn K (.ref (He.ga K c)) = true
structure SubC (K : PySem.W.Frag) (c n : Str) : Prop where
  at_ : PySem.W.findIn K (.ref (He.ga K c)) n = some (some (.ref (He.ma K (He.ga K c) n)))
  fn : PySem.W.isFn K (.ref (He.ma K (He.ga K c) n)) = true
  fi : PySem.W.fnIn K (He.ma K (He.ga K c) n) = true
  ns : PySem.W.noSeq K (He.ga K c) = true
structure EqD (K : PySem.W.Frag) (C : Addr) : Prop where
  eq : PySem.W.findIn K (.ref C) "__eq__" = some (some (.builtin "object.__eq__"))
  ne : PySem.W.findIn K (.ref C) "__ne__" = some (some (.builtin "object.__ne__"))
  ob : PySem.W.mroIn K C (.type "object") = some true
structure Bo0 (K : PySem.W.Frag) (C : Addr) : Prop where
  bo : PySem.W.findIn K (.ref C) "__bool__" = some none
  le : PySem.W.findIn K (.ref C) "__len__" = some none
/-- c1 (without own __eq__) beside c2 (with it) -/
structure Bes (K : PySem.W.Frag) (C C' : Addr) : Prop where
  ne : C ≠ C'
  sub : PySem.W.subIn K (.ref C') (.ref C) = some false
/-! ### the head with tables -/
structure ToldT (ts : List (Addr × Addr)) (K : PySem.W.Frag) (h : Heap) : Prop where
  tab : ∀ p ∈ ts, h.get? p.2 = some { cls := .none, data := .fields #[] }
  out : ∀ p ∈ ts, K.lookup p.2 = none
  code : ∀ p ∈ ts, PySem.W.CodeHd h p.1 p.2
end Ag

namespace Ag
open PySem PySem.Spec PyProof.Rows L2
def kindsT : List String := ["NoneType", "bool", "int", "str", "tuple", "list", "dict"]
end Ag
namespace Ag.k21
open PySem PySem.Spec PyProof.Rows L2
def isoC : List Str := ["Council"]
def isoT : List (Ty × Ty × Bool) := [(.b "bool", .o "Council", false), (.b "int", .o "Council", false), (.b "str", .o "Council", false), (.b "tuple", .o "Council", false), (.b "list", .o "Council", false), (.b "NoneType", .o "Council", false), (.o "Council", .o "Council", true), (.b "bool", .b "bool", true), (.b "int", .b "bool", false), (.b "str", .b "bool", false), (.b "tuple", .b "bool", false), (.b "list", .b "bool", false), (.b "NoneType", .b "bool", false), (.o "Council", .b "bool", false), (.b "bool", .b "int", true), (.b "int", .b "int", true), (.b "str", .b "int", false), (.b "tuple", .b "int", false), (.b "list", .b "int", false), (.b "NoneType", .b "int", false), (.o "Council", .b "int", false), (.b "bool", .b "str", false), (.b "int", .b "str", false), (.b "str", .b "str", true), (.b "tuple", .b "str", false), (.b "list", .b "str", false), (.b "NoneType", .b "str", false), (.o "Council", .b "str", false), (.b "bool", .b "tuple", false), (.b "int", .b "tuple", false), (.b "str", .b "tuple", false), (.b "tuple", .b "tuple", true), (.b "list", .b "tuple", false), (.b "NoneType", .b "tuple", false), (.o "Council", .b "tuple", false)]
end Ag.k21
namespace Ag.k21
open PySem PySem.Spec PyProof.Rows L2
def top (i : Nat) : Stmt := PySem.Challenge.pw_alwaysagree_k21_whole_groups_and_questio.main.body.getD i (.Pass ⟨0, 0, 0, 0⟩)
abbrev st_Council_ways : Stmt := (clsBody (top 32)).getD 3 (.Pass ⟨0, 0, 0, 0⟩)
def df_Council_ways : Df := ⟨fun K => prG K "Council" "ways", "ways", "Council.ways", defArgs st_Council_ways, defBody st_Council_ways, defScope st_Council_ways⟩
abbrev st_reduced : Stmt := top 38
def df_reduced : Df := ⟨fun K => He.ga K "reduced", "reduced", "reduced", defArgs st_reduced, defBody st_reduced, defScope st_reduced⟩
abbrev st_plus : Stmt := top 39
def df_plus : Df := ⟨fun K => He.ga K "plus", "plus", "plus", defArgs st_plus, defBody st_plus, defScope st_plus⟩
abbrev st_mean_of : Stmt := top 41
def df_mean_of : Df := ⟨fun K => He.ga K "mean_of", "mean_of", "mean_of", defArgs st_mean_of, defBody st_mean_of, defScope st_mean_of⟩
abbrev st_day_of : Stmt := top 42
def df_day_of : Df := ⟨fun K => He.ga K "day_of", "day_of", "day_of", defArgs st_day_of, defBody st_day_of, defScope st_day_of⟩
abbrev st_is_integer : Stmt := top 19
def df_is_integer : Df := ⟨fun K => He.ga K "is_integer", "is_integer", "is_integer", defArgs st_is_integer, defBody st_is_integer, defScope st_is_integer⟩
abbrev st_is_fraction : Stmt := top 40
def df_is_fraction : Df := ⟨fun K => He.ga K "is_fraction", "is_fraction", "is_fraction", defArgs st_is_fraction, defBody st_is_fraction, defScope st_is_fraction⟩
abbrev st_check_some : Stmt := top 44
def df_check_some : Df := ⟨fun K => He.ga K "check_some", "check_some", "check_some", defArgs st_check_some, defBody st_check_some, defScope st_check_some⟩
abbrev st_Councild_lend : Stmt := (clsBody (top 32)).getD 5 (.Pass ⟨0, 0, 0, 0⟩)
def df_Councild_lend : Df := ⟨fun K => He.ma K (He.ga K "Council") "__len__", "__len__", "Council.__len__", defArgs st_Councild_lend, defBody st_Councild_lend, defScope st_Councild_lend⟩
abbrev st_check_thoughts : Stmt := top 45
def df_check_thoughts : Df := ⟨fun K => He.ga K "check_thoughts", "check_thoughts", "check_thoughts", defArgs st_check_thoughts, defBody st_check_thoughts, defScope st_check_thoughts⟩
abbrev st_check_council : Stmt := top 33
def df_check_council : Df := ⟨fun K => He.ga K "check_council", "check_council", "check_council", defArgs st_check_council, defBody st_check_council, defScope st_check_council⟩
abbrev st_check_both : Stmt := top 49
def df_check_both : Df := ⟨fun K => He.ga K "check_both", "check_both", "check_both", defArgs st_check_both, defBody st_check_both, defScope st_check_both⟩
abbrev st_fitting : Stmt := top 50
def df_fitting : Df := ⟨fun K => He.ga K "fitting", "fitting", "fitting", defArgs st_fitting, defBody st_fitting, defScope st_fitting⟩
abbrev st_low_l : Stmt := top 56
def df_low_l : Df := ⟨fun K => He.ga K "_law_low", "_law_low", "_law_low", defArgs st_low_l, defBody st_low_l, defScope st_low_l⟩
abbrev st_mixed_l : Stmt := top 57
def df_mixed_l : Df := ⟨fun K => He.ga K "_law_mixed", "_law_mixed", "_law_mixed", defArgs st_mixed_l, defBody st_mixed_l, defScope st_mixed_l⟩
abbrev st_later_l : Stmt := top 61
def df_later_l : Df := ⟨fun K => He.ga K "_law_later", "_law_later", "_law_later", defArgs st_later_l, defBody st_later_l, defScope st_later_l⟩
abbrev st_Council_minds : Stmt := (clsBody (top 32)).getD 2 (.Pass ⟨0, 0, 0, 0⟩)
def df_Council_minds : Df := ⟨fun K => prG K "Council" "minds", "minds", "Council.minds", defArgs st_Council_minds, defBody st_Council_minds, defScope st_Council_minds⟩
abbrev st_even_rows : Stmt := top 48
def df_even_rows : Df := ⟨fun K => He.ga K "even_rows", "even_rows", "even_rows", defArgs st_even_rows, defBody st_even_rows, defScope st_even_rows⟩
abbrev st_ask : Stmt := top 52
def df_ask : Df := ⟨fun K => He.ga K "ask", "ask", "ask", defArgs st_ask, defBody st_ask, defScope st_ask⟩
abbrev st_thoughts_after : Stmt := top 43
def df_thoughts_after : Df := ⟨fun K => He.ga K "thoughts_after", "thoughts_after", "thoughts_after", defArgs st_thoughts_after, defBody st_thoughts_after, defScope st_thoughts_after⟩
abbrev st_is_within : Stmt := top 20
def df_is_within : Df := ⟨fun K => He.ga K "is_within", "is_within", "is_within", defArgs st_is_within, defBody st_is_within, defScope st_is_within⟩
abbrev st_wrong_day : Stmt := top 34
def df_wrong_day : Df := ⟨fun K => He.ga K "wrong_day", "wrong_day", "wrong_day", defArgs st_wrong_day, defBody st_wrong_day, defScope st_wrong_day⟩
abbrev st_check_word : Stmt := top 35
def df_check_word : Df := ⟨fun K => He.ga K "check_word", "check_word", "check_word", defArgs st_check_word, defBody st_check_word, defScope st_check_word⟩
abbrev st_after : Stmt := top 46
def df_after : Df := ⟨fun K => He.ga K "after", "after", "after", defArgs st_after, defBody st_after, defScope st_after⟩
abbrev st_alike : Stmt := top 51
def df_alike : Df := ⟨fun K => He.ga K "alike", "alike", "alike", defArgs st_alike, defBody st_alike, defScope st_alike⟩
abbrev st_is_like_l : Stmt := top 62
def df_is_like_l : Df := ⟨fun K => He.ga K "_law_is_like", "_law_is_like", "_law_is_like", defArgs st_is_like_l, defBody st_is_like_l, defScope st_is_like_l⟩
abbrev st_is_row : Stmt := top 25
def df_is_row : Df := ⟨fun K => He.ga K "is_row", "is_row", "is_row", defArgs st_is_row, defBody st_is_row, defScope st_is_row⟩
abbrev st_is_way : Stmt := top 26
def df_is_way : Df := ⟨fun K => He.ga K "is_way", "is_way", "is_way", defArgs st_is_way, defBody st_is_way, defScope st_is_way⟩
abbrev st_wrong_way : Stmt := top 27
def df_wrong_way : Df := ⟨fun K => He.ga K "wrong_way", "wrong_way", "wrong_way", defArgs st_wrong_way, defBody st_wrong_way, defScope st_wrong_way⟩
abbrev st_is_name : Stmt := top 21
def df_is_name : Df := ⟨fun K => He.ga K "is_name", "is_name", "is_name", defArgs st_is_name, defBody st_is_name, defScope st_is_name⟩
abbrev st_wrong_mind : Stmt := top 24
def df_wrong_mind : Df := ⟨fun K => He.ga K "wrong_mind", "wrong_mind", "wrong_mind", defArgs st_wrong_mind, defBody st_wrong_mind, defScope st_wrong_mind⟩
abbrev st_Councild_initd : Stmt := (clsBody (top 32)).getD 0 (.Pass ⟨0, 0, 0, 0⟩)
def df_Councild_initd : Df := ⟨fun K => He.ma K (He.ga K "Council") "__init__", "__init__", "Council.__init__", defArgs st_Councild_initd, defBody st_Councild_initd, defScope st_Councild_initd⟩
abbrev st_sip_l : Stmt := top 55
def df_sip_l : Df := ⟨fun K => He.ga K "_law_sip", "_law_sip", "_law_sip", defArgs st_sip_l, defBody st_sip_l, defScope st_sip_l⟩
abbrev st_many_talks_l : Stmt := top 63
def df_many_talks_l : Df := ⟨fun K => He.ga K "_law_many_talks", "_law_many_talks", "_law_many_talks", defArgs st_many_talks_l, defBody st_many_talks_l, defScope st_many_talks_l⟩
abbrev st_row_l : Stmt := top 58
def df_row_l : Df := ⟨fun K => He.ga K "_law_row", "_law_row", "_law_row", defArgs st_row_l, defBody st_row_l, defScope st_row_l⟩
abbrev st_talk_l : Stmt := top 59
def df_talk_l : Df := ⟨fun K => He.ga K "_law_talk", "_law_talk", "_law_talk", defArgs st_talk_l, defBody st_talk_l, defScope st_talk_l⟩
abbrev st_pair_l : Stmt := top 60
def df_pair_l : Df := ⟨fun K => He.ga K "_law_pair", "_law_pair", "_law_pair", defArgs st_pair_l, defBody st_pair_l, defScope st_pair_l⟩
abbrev st_right_l : Stmt := top 64
def df_right_l : Df := ⟨fun K => He.ga K "_law_right", "_law_right", "_law_right", defArgs st_right_l, defBody st_right_l, defScope st_right_l⟩
abbrev st_quiet_l : Stmt := top 65
def df_quiet_l : Df := ⟨fun K => He.ga K "_law_quiet", "_law_quiet", "_law_quiet", defArgs st_quiet_l, defBody st_quiet_l, defScope st_quiet_l⟩
abbrev st_jug_l : Stmt := top 54
def df_jug_l : Df := ⟨fun K => He.ga K "_law_jug", "_law_jug", "_law_jug", defArgs st_jug_l, defBody st_jug_l, defScope st_jug_l⟩
abbrev st_law : Stmt := top 66
def df_law : Df := ⟨fun K => He.ga K "law", "law", "law", defArgs st_law, defBody st_law, defScope st_law⟩
def fn : List Df := [df_Council_ways, df_reduced, df_plus, df_mean_of, df_day_of, df_is_integer, df_is_fraction, df_check_some, df_Councild_lend, df_check_thoughts, df_check_council, df_check_both, df_fitting, df_low_l, df_mixed_l, df_later_l, df_Council_minds, df_even_rows, df_ask, df_thoughts_after, df_is_within, df_wrong_day, df_check_word, df_after, df_alike, df_is_like_l, df_is_row, df_is_way, df_wrong_way, df_is_name, df_wrong_mind, df_Councild_initd, df_sip_l, df_many_talks_l, df_row_l, df_talk_l, df_pair_l, df_right_l, df_quiet_l, df_jug_l, df_law]
def fa : List He.Fa := [.free "all", .free "max", .free "min", .free "len", .free "range", .free "tuple", .cls "Council", .noat "Council" "tables", .free "enumerate", .free "abs", .glo "reduced", .free "sum", .free "zip", .glo "plus", .glo "NOUGHT", .glo "mean_of", .glo "day_of", .free "isinstance", .free "int", .free "bool", .glo "is_integer", .glo "is_fraction", .glo "check_some", .noat "Council" "heads", .glo "check_thoughts", .glo "Council", .glo "check_council", .glo "check_both", .glo "fitting", .glo "_law_low", .glo "_law_mixed", .glo "_law_later", .free "set", .glo "even_rows", .glo "ask", .glo "thoughts_after", .glo "is_within", .int "MOST_DAYS" 12, .glo "wrong_day", .glo "check_word", .glo "after", .free "repr", .glo "alike", .glo "_law_is_like", .int "MOST_WEIGHT" 1000000000, .glo "is_row", .glo "is_way", .int "MOST_WAYS" 6, .glo "wrong_way", .str "LETTERS" "abcdefghijklmnopqrstuvwxyz", .str "DIGITS" "0123456789", .free "str", .int "LONGEST_NAME" 8, .glo "is_name", .int "MOST_MINDS" 6, .glo "wrong_mind", .mkr "Council", .free "divmod", .glo "_law_sip", .free "list", .glo "_law_many_talks", .glo "_law_row", .glo "_law_talk", .glo "_law_pair", .glo "_law_right", .glo "_law_quiet", .glo "_law_jug", .glo "law"]
def ex (K : PySem.W.Frag) : Bool := isoB K isoC isoT && (propB K "Council" "ways" (prG K "Council" "ways")) && (He.tupB K "NOUGHT" [.int 0, .int 1]) && (lenB K "Council") && (propB K "Council" "minds" (prG K "Council" "minds"))
abbrev R : PySem.W.OpenRow := PySem.W.OpenLaw.row PySem.Challenge.rw_alwaysagree_k21_whole_groups_and_questio
def lit : List Addr := ([3, 6, 4, 21, 31, 51, 70, 89, 108, 127, 146, 158, 171, 181, 188, 193, 198, 205, 210, 215, 222, 227, 232, 237, 242, 320, 331, 338, 345, 346, 353, 360, 367, 374, 379, 386, 393, 400, 407, 412] : List Addr) ++ ([419, 424, 429, 434, 441, 448, 455, 462, 467, 472, 477, 482, 487, 492, 497, 504, 509, 0, 20, 30, 50, 69, 88, 107, 126, 145, 157, 170, 180, 187, 192, 197, 204, 209, 214, 221, 226, 231, 236, 241] : List Addr) ++ ([319, 330, 337, 344, 352, 359, 366, 373, 378, 385, 392, 399, 406, 411, 418, 423, 428, 433, 440, 447, 454, 461, 466, 471, 476, 481, 486, 491, 496, 503, 508, 15, 16, 17, 18, 19, 29, 32, 48, 49] : List Addr) ++ ([67, 68, 86, 87, 105, 106, 124, 125, 143, 144, 156, 159, 169, 172, 175, 176, 177, 178, 179, 182, 183, 184, 185, 186, 189, 190, 191, 194, 195, 196, 199, 200, 201, 202, 203, 206, 207, 208, 211, 212] : List Addr) ++ ([213, 216, 217, 218, 219, 220, 223, 224, 225, 228, 229, 230, 233, 234, 235, 238, 239, 240, 256, 265, 274, 282, 289, 296, 303, 310, 317, 318, 321, 322, 325, 326, 327, 328, 329, 332, 333, 334, 335, 336] : List Addr) ++ ([339, 340, 341, 342, 343, 347, 348, 349, 350, 351, 354, 355, 356, 357, 358, 361, 362, 363, 364, 365, 368, 369, 370, 371, 372, 375, 376, 377, 380, 381, 382, 383, 384, 387, 388, 389, 390, 391, 394, 395] : List Addr) ++ ([396, 397, 398, 401, 402, 403, 404, 405, 408, 409, 410, 413, 414, 415, 416, 417, 420, 421, 422, 425, 426, 427, 430, 431, 432, 435, 436, 437, 438, 439, 442, 443, 444, 445, 446, 449, 450, 451, 452, 453] : List Addr) ++ ([456, 457, 458, 459, 460, 463, 464, 465, 468, 469, 470, 473, 474, 475, 478, 479, 480, 483, 484, 485, 488, 489, 490, 493, 494, 495, 498, 499, 500, 501, 502, 505, 506, 507, 47, 66, 85, 104, 123, 142] : List Addr) ++ ([255, 263, 264, 273, 281, 288, 295, 302, 309, 316, 42, 43, 44, 45, 46, 61, 62, 63, 64, 65, 80, 81, 82, 83, 84, 99, 100, 101, 102, 103, 118, 119, 120, 121, 122, 137, 138, 139, 140, 141] : List Addr) ++ ([250, 251, 252, 253, 254, 262, 266, 272, 280, 283, 284, 285, 286, 287, 290, 291, 292, 293, 294, 297, 298, 299, 300, 301, 304, 305, 306, 307, 308, 311, 312, 313, 314, 315] : List Addr)
def hookL (fa : List He.Fa) (fn : List Df) (ex : PySem.W.Frag → Bool) : PySem.W.Hook where
  α := Seen
  obs := fun s => seenK fa fn ex (He.frG s.heap.get? lit)
  val := fun _ => (true, fn.map Df.due)
  says := fun _ h => ∃ K : PySem.W.Frag, K.In h ∧ Told fa fn ex K
  of := fun _ _ e => ⟨_, He.frG_in, told_of e⟩
  keeps := fun _ _ _ ⟨K, hK, c⟩ k => ⟨K, PySem.W.Frag.In.keeps hK k, c⟩
def obL (fa : List He.Fa) (fn : List Df) (ex : PySem.W.Frag → Bool) (g : Addr → Option Obj) : Seen := seenK fa fn ex (He.frG g lit)
theorem obL_eq {fa : List He.Fa} {fn : List Df} {ex : PySem.W.Frag → Bool} {g : Addr → Option Obj} {s : Shared} (h : ∀ a, g a = s.heap.get? a) : obL fa fn ex g = (hookL fa fn ex).obs s := by
  have e : g = s.heap.get? := funext h
  rw [e]; rfl
abbrev hk : PySem.W.Hook := hookL  fa fn ex
def ob (s : PySem.W.SharedT) : Seen := obL  fa fn ex (HandSHeadRun.getT s)
theorem ob_eq (s : PySem.W.SharedT) : ob s = hk.obs s.abs := obL_eq (HandSHeadRun.getT_eq s)
def loose : List Str := (["_wall", "__name__", "WrongValue", "InvalidText", "NotACouncil", "InvalidMinds", "InvalidWays", "InvalidWord", "InvalidThoughts", "WrongName", "NoAnswer", "MOST_MINDS", "MOST_WAYS", "MOST_WEIGHT", "MOST_DAYS", "LETTERS", "DIGITS", "LONGEST_NAME", "is_integer", "is_within"] : List Str) ++ (["is_name", "read_number", "wrong_mind", "is_row", "is_way", "wrong_way", "way_text", "lines_of", "read_way", "read_council", "Council", "check_council", "wrong_day", "check_word", "NOUGHT", "reduced", "plus", "is_fraction", "mean_of", "day_of"] : List Str) ++ (["thoughts_after", "check_some", "check_thoughts", "after", "even_rows", "check_both", "fitting", "alike", "ask", "_law_jug", "_law_sip", "_law_low", "_law_mixed", "_law_row", "_law_talk", "_law_pair", "_law_later", "_law_is_like", "_law_many_talks", "_law_right"] : List Str) ++ (["_law_quiet"] : List Str)
abbrev qv : Program := PySem.W.view R.prog [66]
open HandSHeadRun PySem.W PySem.Calls in
noncomputable abbrev endT (w : World) (os : OsState) : Option PySem.W.SharedT := endF (stepQ (denQ tabQ) R.prog w) 20000 R.prog w os
theorem run_join {α A B C : Type} {E : Option α} {a : α → A} {b : α → B} {c : α → C} {x : A} {y : B} {z : C} (h1 : E.map (fun s => (a s, b s)) = some (x, y)) (h2 : E.map c = some z) : E.map (fun s => (a s, b s, c s)) = some (x, y, z) := by
  cases E with
  | none => cases h1
  | some s =>
    simp only [Option.map_some, Option.some.injEq, Prod.mk.injEq] at h1 h2 ⊢
    exact ⟨h1.1, h1.2, h2⟩
open HandSHeadRun PySem.W PySem.Calls in
theorem runA (w : World) (os : OsState) : (endT w os).map (fun s => (looksF R.prog (boot_heap w.params) s.abs, seenQ qv loose (importedModules R.prog.main.body) (fun s => xlAt qv [] s && recOk R.toRowW.records s) s.abs)) = some (true, openGood qv loose) := by kernel_rfl
theorem runO (w : World) (os : OsState) : (endT w os).map ob = some (hk.val w) := by kernel_rfl
theorem run (w : World) : HandSHeadRun.RunEq R (PySem.W.view R.prog [66]) hk ob 20000 loose w := fun os => run_join (runA w os) (runO w os)
end Ag.k21

namespace Ag
open PySem
/-! ### what a mirror answers, by weakest wishes -/
@[irreducible] def osat {α : Type} (o : Option α) (P : α → Prop) : Prop := match o with
  | some r => P r
  | none => False
theorem os_some {α : Type} {r : α} {P : α → Prop} : osat (some r) P ↔ P r := by unfold osat; exact Iff.rfl
theorem os_none {α : Type} {P : α → Prop} : osat (none : Option α) P ↔ False := by unfold osat; exact Iff.rfl
theorem os_if {α : Type} {c : Prop} [Decidable c] {r : α} {P : α → Prop} : osat (if c then some r else none) P ↔ c ∧ P r := by
  by_cases h : c <;> simp [h, osat]
theorem os_map {α β : Type} {o : Option α} {f : α → β} {P : β → Prop} : osat (o.map f) P ↔ osat o (fun a => P (f a)) := by cases o <;> simp [os_some, os_none]
@[irreducible] def Res.sat {α : Type} (r : Res α) (P : α → Sto → Prop) : Prop := match r with
  | .ok a S => P a S
  | _ => False
@[irreducible] def SRes.sat (r : SRes) (N : En → Sto → Prop) (R : D → Sto → Prop) : Prop := match r with
  | .next en S => N en S
  | .ret d S => R d S
  | _ => False
section
variable {α : Type} {a : α} {S : Sto} {P : α → Sto → Prop} {N : En → Sto → Prop} {R : D → Sto → Prop} {en : En} {d : D} {c : Str} {fs : List (Str × D)}
theorem r_ok : (Res.ok a S).sat P ↔ P a S := by unfold Res.sat; exact Iff.rfl
theorem r_exc : (Res.exc c fs S : Res α).sat P ↔ False := by unfold Res.sat; exact Iff.rfl
theorem r_stuck : (Res.stuck : Res α).sat P ↔ False := by unfold Res.sat; exact Iff.rfl
theorem s_nx : (SRes.next en S).sat N R ↔ N en S := by unfold SRes.sat; exact Iff.rfl
theorem s_rt : (SRes.ret d S).sat N R ↔ R d S := by unfold SRes.sat; exact Iff.rfl
theorem s_bk : (SRes.brk en S).sat N R ↔ False := by unfold SRes.sat; exact Iff.rfl
theorem s_ct : (SRes.cnt en S).sat N R ↔ False := by unfold SRes.sat; exact Iff.rfl
theorem s_ex : (SRes.exc c fs en S).sat N R ↔ False := by unfold SRes.sat; exact Iff.rfl
theorem s_st : SRes.stuck.sat N R ↔ False := by unfold SRes.sat; exact Iff.rfl
end
theorem Res.sat.mono {α : Type} {r : Res α} {P Q : α → Sto → Prop} (h : r.sat P) (k : ∀ a S, P a S → Q a S) : r.sat Q := by
  cases r with
  | ok a S => exact r_ok.mpr (k a S (r_ok.mp h))
  | exc c fs S => exact (r_exc.mp h).elim
  | stuck => exact (r_stuck.mp h).elim
theorem SRes.sat.mono {r : SRes} {N N' : En → Sto → Prop} {R R' : D → Sto → Prop} (h : r.sat N R) (k : ∀ a S, N a S → N' a S) (k2 : ∀ a S, R a S → R' a S) : r.sat N' R' := by
  cases r with
  | next a S => exact s_nx.mpr (k a S (s_nx.mp h))
  | ret a S => exact s_rt.mpr (k2 a S (s_rt.mp h))
  | brk a S => exact (s_bk.mp h).elim
  | cnt a S => exact (s_ct.mp h).elim
  | exc c fs a S => exact (s_ex.mp h).elim
  | stuck => exact (s_st.mp h).elim
theorem Res.sat.eq {α : Type} {r : Res α} {P : α → Sto → Prop} (h : r.sat P) : ∃ a S, r = .ok a S ∧ P a S := by
  cases r with
  | ok a S => exact ⟨a, S, rfl, r_ok.mp h⟩
  | exc c fs S => exact (r_exc.mp h).elim
  | stuck => exact (r_stuck.mp h).elim
section
variable {P : D → Sto → Prop} {PL : List D → Sto → Prop} {PB : Bool → Sto → Prop} {N : En → Sto → Prop} {R : D → Sto → Prop} {en : En} {S : Sto} {ma mb mc mo me : EM} {mr : AM} {t u : BM} {s1 s2 : SM} {f g : D → D → Sto → Option D}
theorem r_bind {α β : Type} {r : Res α} {k : α → Sto → Res β} {P : β → Sto → Prop} : (r.bind k).sat P ↔ r.sat (fun a S => (k a S).sat P) := by cases r <;> simp only [Res.bind, r_ok, r_exc, r_stuck, s_nx, s_rt, s_bk, s_ct, s_ex, s_st]
theorem r_ofO {α : Type} {o : Option α} {P : α → Sto → Prop} : (ofO o S).sat P ↔ osat o (fun a => P a S) := by cases o <;> simp only [ofO, osat, r_ok, r_exc, r_stuck, s_nx, s_rt, s_bk, s_ct, s_ex, s_st]
theorem r_if {α : Type} {c : Prop} [Decidable c] {a b : Res α} {P : α → Sto → Prop} : (if c then a else b).sat P ↔ if c then a.sat P else b.sat P := by by_cases h : c <;> simp [h]
theorem r_ifs {α : Type} {c : Prop} [Decidable c] {a : Res α} {P : α → Sto → Prop} : (if c then a else .stuck).sat P ↔ c ∧ a.sat P := by by_cases h : c <;> simp [h, r_stuck]
def slotD (en : En) (i : Nat) : Option D := match en[i]? with
  | some (some d) => some d
  | _ => none
theorem q_var {i : Nat} : (mVar i en S).sat P ↔ osat (slotD en i) (fun d => P d S) := by unfold mVar; rw [r_ofO]; exact Iff.rfl
theorem sl_0 {d : D} {r : En} : slotD (some d :: r) 0 = some d := rfl
theorem sl_s {x : Option D} {r : En} {i : Nat} : slotD (x :: r) (i + 1) = slotD r i := rfl
theorem q_c {d : D} : (mC d en S).sat P ↔ P d S := r_ok
theorem q_op : (mOp f ma mb en S).sat P ↔ (ma en S).sat fun d S1 => (mb en S1).sat fun e S2 => osat (f d e S2) fun r => P r S2 := by
  unfold mOp; simp only [r_bind, r_ofO]
theorem q_un {f : D → Sto → Option D} : (mUn f ma en S).sat P ↔ (ma en S).sat fun d S1 => osat (f d S1) fun r => P r S1 := by unfold mUn; simp only [r_bind, r_ofO]
theorem q_b : (mB ma en S).sat PB ↔ (ma en S).sat fun d S1 => osat (bOf d) fun b => PB b S1 := by unfold mB; simp only [r_bind, r_ofO]
theorem q_andB : (mAndB t u en S).sat PB ↔ (t en S).sat fun c S1 => if c = true then (u en S1).sat PB else PB false S1 := by unfold mAndB; simp only [r_bind, r_if, r_ok]
theorem q_orB : (mOrB t u en S).sat PB ↔ (t en S).sat fun c S1 => if c = true then PB true S1 else (u en S1).sat PB := by unfold mOrB; simp only [r_bind, r_if, r_ok]
theorem q_notB : (mNotB t en S).sat PB ↔ (t en S).sat fun c S1 => PB (!c) S1 := by unfold mNotB; simp only [r_bind, r_ok]
theorem q_andV : (mAndV ma mb en S).sat P ↔ (ma en S).sat fun d S1 => osat (bOf d) fun c => if c = true then (mb en S1).sat P else P (.bl false) S1 := by
  unfold mAndV
  rw [r_bind]
  refine iff_of_eq (congrArg _ (funext fun d => funext fun S1 => ?_))
  cases q : bOf d with
  | none => simp [r_stuck, osat]
  | some b => cases b <;> simp [r_ok, osat]
theorem q_orV : (mOrV ma mb en S).sat P ↔ (ma en S).sat fun d S1 => osat (bOf d) fun c => if c = true then P (.bl true) S1 else (mb en S1).sat P := by
  unfold mOrV
  rw [r_bind]
  refine iff_of_eq (congrArg _ (funext fun d => funext fun S1 => ?_))
  cases q : bOf d with
  | none => simp [r_stuck, osat]
  | some b => cases b <;> simp [r_ok, osat]
theorem q_notV : (mNotV ma en S).sat P ↔ (ma en S).sat fun d S1 => osat (bOf d) fun b => P (.bl (!b)) S1 := by unfold mNotV; simp only [q_un, os_map]
theorem q_if : (mIf t ma mb en S).sat P ↔ (t en S).sat fun c S1 => if c = true then (ma en S1).sat P else (mb en S1).sat P := by unfold mIf; simp only [r_bind, r_if]
theorem q_chain : (mChain f g ma mb mc en S).sat P ↔ (ma en S).sat fun d S1 => (mb en S1).sat fun e S2 => osat ((f d e S2).bind bOf) fun c => if c = true then ((mc en S2).sat fun h S3 => osat (g e h S3) fun r => P r S3) else P (.bl false) S2 := by
  unfold mChain
  simp only [r_bind]
  refine iff_of_eq (congrArg _ (funext fun d => funext fun S1 => congrArg _ (funext fun e => funext fun S2 => ?_)))
  cases q : (f d e S2).bind bOf with
  | none => simp [r_stuck, osat]
  | some b =>
    cases b with
    | true =>
      refine propext ((show _ ↔ ((mc en S2).bind fun h S3 => ofO (g e h S3) S3).sat P from Iff.rfl).trans ?_)
      simp only [r_bind, r_ofO, os_some, if_pos]
    | false => simp [r_ok, osat]
theorem q_nil : (mNil en S).sat PL ↔ PL [] S := r_ok
theorem q_cons : (mCons ma mr en S).sat PL ↔ (ma en S).sat fun d S1 => (mr en S1).sat fun ds S2 => PL (d :: ds) S2 := by unfold mCons; simp only [r_bind, r_ok]
theorem q_tup : (mTup mr en S).sat P ↔ (mr en S).sat fun ds S1 => ds.length ≤ lineN ∧ P (.tup ds) S1 := by unfold mTup; simp only [r_bind, r_ofO, os_if]
theorem q_lst : (mLst mr en S).sat P ↔ (mr en S).sat fun ds S1 => ds.length ≤ lineN ∧ P (.lst ds) S1 := by unfold mLst; simp only [r_bind, r_ofO, os_if]
theorem q_lstC : (mLstC mr en S).sat P ↔ (mr en S).sat fun ds S1 => ds.length ≤ lineN ∧ P (.ref S1.length) (S1 ++ [.lst ds]) := by unfold mLstC; simp only [r_bind, r_ifs, r_ok]
theorem q_cb {f : List D → Sto → Option D} : (mCB f mr en S).sat P ↔ (mr en S).sat fun ds S1 => osat (f ds S1) fun r => P r S1 := by unfold mCB; simp only [r_bind, r_ofO]
theorem q_call {n : Nat} {fm : List D → Sto → Res D} : (mCall n fm mr en S).sat P ↔ (mr en S).sat fun ds S1 => ds.length = n ∧ (fm ds S1).sat P := by unfold mCall; simp only [r_bind, r_ifs]
theorem q_callK {n : Nat} {ix : List Nat} {fm : List D → Sto → Res D} : (mCallK n ix fm mr en S).sat P ↔ (mr en S).sat fun ds S1 => ds.length = n ∧ (pick ix ds).length = n ∧ (fm (pick ix ds) S1).sat P := by unfold mCallK; simp only [r_bind, r_ifs]
theorem q_cr {f : List D → Sto → Res D} : (mCR f mr en S).sat P ↔ (mr en S).sat fun ds S1 => (f ds S1).sat P := by
  unfold mCR
  rw [r_bind]
  refine iff_of_eq (congrArg _ (funext fun d => funext fun S1 => ?_))
  cases q : f d S1 <;> simp only [r_ok, r_exc, r_stuck, s_nx, s_rt, s_bk, s_ct, s_ex, s_st]
theorem q_prop {c : Str} {fm : List D → Sto → Res D} : (mProp c fm ma en S).sat P ↔ (ma en S).sat fun d S1 => clsD d S1 = some c ∧ (fm [d] S1).sat P := by
  unfold mProp
  rw [r_bind]
  refine iff_of_eq (congrArg _ (funext fun d => funext fun S1 => ?_))
  cases q : clsD d S1 with
  | none => simp [r_stuck]
  | some c' =>
    by_cases h : c' = c
    · subst h
      simp only [if_pos]
      cases q2 : fm [d] S1 <;> simp [r_ok, r_exc, r_stuck]
    · simp [h, r_stuck]
theorem q_sl {lo hi : OM} : (mSl me lo hi en S).sat P ↔ (me en S).sat fun d S1 => (lo en S1).sat fun l S2 => (hi en S2).sat fun h S3 => osat (fSl d l h S3) fun r => P r S3 := by unfold mSl; simp only [r_bind, r_ofO]
theorem q_oN {PO : Option Int → Sto → Prop} : (oNone en S).sat PO ↔ PO none S := r_ok
def intD : D → Option Int
  | .int i => some i
  | _ => none
theorem q_oS {PO : Option Int → Sto → Prop} : (oSome me en S).sat PO ↔ (me en S).sat fun d S1 => osat (intD d) fun i => PO (some i) S1 := by
  unfold oSome
  rw [r_bind]
  refine iff_of_eq (congrArg _ (funext fun d => funext fun S1 => ?_))
  cases d <;> simp [intD, osat, r_ok, r_stuck]
theorem q_bm {fm : D → List D → Sto → Option (D × Sto)} {ok : D → Sto → Bool} : (mBM fm ok mo mr en S).sat P ↔ (mo en S).sat fun d S1 => ok d S1 = true ∧ ((mr en S1).sat fun ds S2 => osat (fm d ds S2) fun r => P r.1 r.2) := by
  unfold mBM
  simp only [r_bind, r_ifs]
  refine iff_of_eq (congrArg _ (funext fun d => funext fun S1 => congrArg _ (congrArg _ (funext fun ds => funext fun S2 => ?_))))
  cases fm d ds S2 <;> simp [osat, r_ok, r_stuck]
theorem q_make {c : Str} {z : Bool} {n : Nat} {fm : List D → Sto → Res D} : (mMake c z n fm mr en S).sat P ↔ (mr en S).sat fun ds S1 => ds.length = n ∧ (mkD c z fm ds S1).sat P := by unfold mMake; simp only [r_bind, r_ifs]
/-! statements -/
theorem p_eS {r : Res D} {k : D → Sto → SRes} : (eS r en k).sat N R ↔ r.sat fun d S1 => (k d S1).sat N R := by cases r <;> simp only [eS, bS, lS, r_ok, r_exc, r_stuck, s_nx, s_rt, s_bk, s_ct, s_ex, s_st]
theorem p_bS {r : Res Bool} {k : Bool → Sto → SRes} : (bS r en k).sat N R ↔ r.sat fun d S1 => (k d S1).sat N R := by cases r <;> simp only [eS, bS, lS, r_ok, r_exc, r_stuck, s_nx, s_rt, s_bk, s_ct, s_ex, s_st]
theorem p_lS {r : Res (List D)} {k : List D → Sto → SRes} : (lS r en k).sat N R ↔ r.sat fun d S1 => (k d S1).sat N R := by cases r <;> simp only [eS, bS, lS, r_ok, r_exc, r_stuck, s_nx, s_rt, s_bk, s_ct, s_ex, s_st]
theorem p_nil : (sNil en S).sat N R ↔ N en S := s_nx
theorem p_pass : (sPass en S).sat N R ↔ N en S := s_nx
theorem p_seq : (sSeq s1 s2 en S).sat N R ↔ (s1 en S).sat (fun en S => (s2 en S).sat N R) R := by unfold sSeq; cases s1 en S <;> simp only [r_ok, r_exc, r_stuck, s_nx, s_rt, s_bk, s_ct, s_ex, s_st]
theorem p_expr : (sExpr ma en S).sat N R ↔ (ma en S).sat fun _ S1 => N en S1 := by unfold sExpr; simp only [p_eS, s_nx]
theorem p_ret : (sRet ma en S).sat N R ↔ (ma en S).sat R := by unfold sRet; simp only [p_eS, s_rt]
theorem s_ite {c : Prop} [Decidable c] {a b : SRes} : (if c then a else b).sat N R ↔ if c then a.sat N R else b.sat N R := by by_cases h : c <;> simp [h]
theorem p_if : (sIf t s1 s2 en S).sat N R ↔ (t en S).sat fun c S1 => if c = true then (s1 en S1).sat N R else (s2 en S1).sat N R := by unfold sIf; simp only [p_bS, s_ite]
theorem p_asgN {i : Nat} : (sAsg ma (gNm i) en S).sat N R ↔ (ma en S).sat fun d S1 => N (en.set i (some d)) S1 := by unfold sAsg; simp only [p_eS, gNm, s_nx]
theorem p_asg {gm : GM} : (sAsg ma gm en S).sat N R ↔ (ma en S).sat fun d S1 => (gm d en S1).sat N := by
  unfold sAsg
  rw [p_eS]
  refine iff_of_eq (congrArg _ (funext fun d => funext fun S1 => ?_))
  cases gm d en S1 <;> simp only [r_ok, r_exc, r_stuck, s_nx, s_rt, s_bk, s_ct, s_ex, s_st]
theorem p_par {i j : Nat} : (sPar i j mr en S).sat N R ↔ (mr en S).sat fun ds S1 => ∃ a b, ds = [a, b] ∧ N ((en.set i (some a)).set j (some b)) S1 := by
  unfold sPar
  rw [p_lS]
  refine iff_of_eq (congrArg _ (funext fun ds => funext fun S1 => propext ?_))
  constructor
  · intro h
    split at h
    · exact ⟨_, _, rfl, s_nx.mp h⟩
    · exact (s_st.mp h).elim
  · rintro ⟨a, b, rfl, h⟩
    exact s_nx.mpr h
theorem p_par3 {i j l : Nat} : (sPar3 i j l mr en S).sat N R ↔ (mr en S).sat fun ds S1 => ∃ a b c, ds = [a, b, c] ∧ N (((en.set i (some a)).set j (some b)).set l (some c)) S1 := by
  unfold sPar3
  rw [p_lS]
  refine iff_of_eq (congrArg _ (funext fun ds => funext fun S1 => propext ?_))
  constructor
  · intro h
    split at h
    · exact ⟨_, _, _, rfl, s_nx.mp h⟩
    · exact (s_st.mp h).elim
  · rintro ⟨a, b, c, rfl, h⟩
    exact s_nx.mpr h
theorem ex_pair {a b : D} {Q : D → D → Prop} : (∃ x y, [a, b] = [x, y] ∧ Q x y) ↔ Q a b := by
  constructor
  · rintro ⟨x, y, e, h⟩
    cases e
    exact h
  · exact fun h => ⟨a, b, rfl, h⟩
theorem ex_trip {a b c : D} {Q : D → D → D → Prop} : (∃ x y z, [a, b, c] = [x, y, z] ∧ Q x y z) ↔ Q a b c := by
  constructor
  · rintro ⟨x, y, z, e, h⟩
    cases e
    exact h
  · exact fun h => ⟨a, b, c, rfl, h⟩
theorem p_try {b : SM} : (sTryQ b en S).sat N R ↔ (b en S).sat N R := by unfold sTryQ; cases b en S <;> simp only [r_ok, r_exc, r_stuck, s_nx, s_rt, s_bk, s_ct, s_ex, s_st]
theorem g_nm {i : Nat} {d : D} {NE : En → Sto → Prop} : (gNm i d en S).sat NE ↔ NE (en.set i (some d)) S := r_ok
theorem g_unpS {n : Nat} {r : GsM} {d : D} {NE : En → Sto → Prop} : (gUnp n r d en S).sat NE ↔ osat (seqOf d S) fun l => l.length = n ∧ (r l en S).sat NE := by
  unfold gUnp
  cases q : seqOf d S with
  | none => simp [r_stuck, osat]
  | some l =>
    by_cases h : l.length = n
    · simp only [if_pos h, osat]
      cases r l en S <;> simp [r_ok, r_exc, r_stuck, h]
    · simp [h, r_stuck, osat]
theorem gs_nilS {NE : En → Sto → Prop} : (gsNil [] en S).sat NE ↔ NE en S := r_ok
theorem gs_consS {gm : GM} {r : GsM} {d : D} {ds : List D} {NE : En → Sto → Prop} : (gsCons gm r (d :: ds) en S).sat NE ↔ (gm d en S).sat fun en1 S1 => (r ds en1 S1).sat NE := by
  show Res.sat (match gm d en S with
    | .ok en1 S1 => (match r ds en1 S1 with
      | .ok en2 S2 => .ok en2 S2
      | _ => .stuck)
    | _ => .stuck) NE ↔ _
  generalize gm d en S = z
  cases z with
  | ok en1 S1 =>
    rw [r_ok]
    show Res.sat (match r ds en1 S1 with
      | .ok en2 S2 => .ok en2 S2
      | _ => .stuck) NE ↔ (r ds en1 S1).sat NE
    cases r ds en1 S1 <;> simp only [r_ok, r_exc, r_stuck]
  | exc c fs S1 => simp only [r_exc, r_stuck]
  | stuck => simp only [r_stuck]
theorem g_subS {f : D → D → D → Sto → Option Sto} {mi : EM} {d : D} {NE : En → Sto → Prop} : (gSubM f mo mi d en S).sat NE ↔ (mo en S).sat fun o S1 => (mi en S1).sat fun i S2 => osat (f o i d S2) fun S3 => NE en S3 := by
  unfold gSubM
  simp only [r_bind]
  refine iff_of_eq (congrArg _ (funext fun o => funext fun S1 => congrArg _ (funext fun i => funext fun S2 => ?_)))
  cases f o i d S2 <;> simp [osat, r_ok, r_stuck]
theorem f_run {n : Nat} {s : SM} {ds : List D} : (runB n s ds S).sat P ↔ (s (ds.map some ++ List.replicate (n - ds.length) none) S).sat (fun _ S => P .non S) P := by
  unfold runB
  cases s (ds.map some ++ List.replicate (n - ds.length) none) S <;> simp only [r_ok, r_exc, r_stuck, s_nx, s_rt, s_bk, s_ct, s_ex, s_st]
/-! loops over a list that is known -/
structure LIt (it : ItD) (l : List D) : Prop where
  n : it.n = l.length
  at_ : ∀ k S, it.nxt k S = some l[k]?
theorem li_ls (l : List D) : LIt (lsIt l) l := ⟨rfl, fun _ _ => rfl⟩
theorem li_rg (lo : Int) (n : Nat) : LIt (rgIt lo n) ((List.range n).map fun k => .int (lo + (k : Nat))) := ⟨by simp [rgIt], fun k S => by
  simp only [rgIt, List.getElem?_map, List.getElem?_range]
  by_cases h : k < n <;> simp [h]⟩
theorem li_en (l : List D) : LIt (enIt l) (l.mapIdx fun k d => .tup [.int (k : Nat), d]) := ⟨by simp [enIt], fun k S => by simp [enIt]⟩
theorem li_zp {l r : List D} (hr : ∀ d ∈ r, d.isN = false) : LIt (zpIt l r) (List.zipWith (fun a b => .tup [a, b]) l r) := ⟨by simp [zpIt], fun k S => by
  simp only [zpIt, List.getElem?_zipWith]
  cases l[k]? with
  | none => rfl
  | some a =>
    cases q : r[k]? with
    | none => rfl
    | some b =>
      have hb : names [a, b] = false := by simp [names, hr b (List.mem_of_getElem? q)]
      simp only [hb, Bool.false_eq_true, if_false]⟩
theorem for_inv {it : ItD} {l : List D} {gm : GM} {b : SM} (hl : LIt it l) (I : Nat → En → Sto → Prop) (step : ∀ k d en S, l[k]? = some d → I k en S → (gm d en S).sat fun en1 S1 => (b en1 S1).sat (I (k + 1)) R) (fin : ∀ en S, I l.length en S → N en S) (h0 : I 0 en S) :
    (forM it.nxt gm b it.n 0 en S).sat N R := by
  have key : ∀ f k en S, f + k = l.length → I k en S → (forM it.nxt gm b f k en S).sat N R := by
    intro f
    induction f with
    | zero =>
      intro k en S e i
      have e2 : k = l.length := by omega
      subst e2
      simp only [forM, hl.at_, List.getElem?_eq_none (Nat.le_refl _), s_nx]
      exact fin _ _ i
    | succ f ih =>
      intro k en S e i
      have hk : k < l.length := by omega
      have hx := List.getElem?_eq_getElem hk
      have := step k _ en S hx i
      simp only [forM, hl.at_, hx]
      cases q : gm l[k] en S with
      | ok en1 S1 =>
        rw [q, r_ok] at this
        simp only
        cases q2 : b en1 S1 with
        | next en2 S2 => rw [q2, s_nx] at this; exact ih (k + 1) en2 S2 (by omega) this
        | ret d S2 => rw [q2, s_rt] at this; exact s_rt.mpr this
        | brk en2 S2 => rw [q2, s_bk] at this; exact this.elim
        | cnt en2 S2 => rw [q2, s_ct] at this; exact this.elim
        | exc c fs en2 S2 => rw [q2, s_ex] at this; exact this.elim
        | stuck => rw [q2, s_st] at this; exact this.elim
      | exc c fs S1 => rw [q, r_exc] at this; exact this.elim
      | stuck => rw [q, r_stuck] at this; exact this.elim
  rw [hl.n]
  exact key l.length 0 en S rfl h0
theorem p_for {mi : IM} {gm : GM} {b : SM} : (sFor mi gm b en S).sat N R ↔ (mi en S).sat fun it S1 => (forM it.nxt gm b it.n 0 en S1).sat N R := by unfold sFor; cases mi en S <;> simp only [r_ok, r_exc, r_stuck, s_nx, s_rt, s_bk, s_ct, s_ex, s_st]
theorem q_itV {PI : ItD → Sto → Prop} : (mItV me en S).sat PI ↔ (me en S).sat fun d S1 => osat (itOf d S1) fun it => PI it S1 := by unfold mItV; simp only [r_bind, r_ofO]
theorem q_itA {f : List D → Sto → Option ItD} {PI : ItD → Sto → Prop} : (mItA f mr en S).sat PI ↔ (mr en S).sat fun ds S1 => osat (f ds S1) fun it => PI it S1 := by unfold mItA; simp only [r_bind, r_ofO]
theorem lc_inv {it : ItD} {l : List D} {gm : GM} (hl : LIt it l) (I : Nat → List D → Sto → Prop) (step : ∀ k d acc S, l[k]? = some d → I k acc S → (gm d en S).sat fun en1 S1 => (t en1 S1).sat fun c S2 => if c = true then (me en1 S2).sat fun y S3 => acc.length < lineN ∧ I (k + 1) (acc ++ [y]) S3 else I (k + 1) acc S2)
    (fin : ∀ acc S, I l.length acc S → PL acc S) (h0 : I 0 [] S) : (lcM it.nxt gm t me en it.n 0 [] S).sat PL := by
  have key : ∀ f k acc S, f + k = l.length → I k acc S → (lcM it.nxt gm t me en f k acc S).sat PL := by
    intro f
    induction f with
    | zero =>
      intro k acc S e i
      have e2 : k = l.length := by omega
      subst e2
      simp only [lcM, hl.at_, List.getElem?_eq_none (Nat.le_refl _), r_ok]
      exact fin _ _ i
    | succ f ih =>
      intro k acc S e i
      have hk : k < l.length := by omega
      have hx := List.getElem?_eq_getElem hk
      have := step k _ acc S hx i
      simp only [lcM, hl.at_, hx]
      cases q : gm l[k] en S with
      | ok en1 S1 =>
        rw [q, r_ok] at this
        simp only
        cases q2 : t en1 S1 with
        | ok c S2 =>
          rw [q2, r_ok] at this
          simp only
          by_cases hc : c = true
          · rw [if_pos hc] at this ⊢
            cases q3 : me en1 S2 with
            | ok y S3 =>
              rw [q3, r_ok] at this
              simp only
              rw [if_pos this.1]
              exact ih (k + 1) _ S3 (by omega) this.2
            | exc c fs S3 => rw [q3, r_exc] at this; exact this.elim
            | stuck => rw [q3, r_stuck] at this; exact this.elim
          · rw [if_neg hc] at this ⊢
            exact ih (k + 1) _ S2 (by omega) this
        | exc c fs S2 => rw [q2, r_exc] at this; exact this.elim
        | stuck => rw [q2, r_stuck] at this; exact this.elim
      | exc c fs S1 => rw [q, r_exc] at this; exact this.elim
      | stuck => rw [q, r_stuck] at this; exact this.elim
  rw [hl.n]
  exact key l.length 0 [] S rfl h0
/-- no test, nothing changed: a map -/
theorem lc_map {it : ItD} {l : List D} {gm : GM} (hl : LIt it l) (h : D → D) (hlen : l.length ≤ lineN) (step : ∀ (k : Nat) (d : D), l[k]? = some d → (gm d en S).sat fun en1 S1 => (me en1 S1).sat fun y S2 => y = h d ∧ S2 = S) (fin : PL (l.map h) S) : (lcM it.nxt gm mYes me en it.n 0 [] S).sat PL := by
  refine lc_inv hl (fun k acc S' => acc = (l.take k).map h ∧ S' = S) (fun k d acc S' hd i => ?_) (fun acc S' i => ?_) ⟨by simp, rfl⟩
  · obtain ⟨rfl, rfl⟩ := i
    have hk := (List.getElem?_eq_some_iff.mp hd).1
    refine (step k d hd).mono fun en1 S1 z => ?_
    simp only [mYes, r_ok, if_pos]
    refine z.mono fun y S2 q => ⟨by simp; omega, ?_, q.2⟩
    rw [q.1, List.take_add_one, hd]
    simp
  · obtain ⟨rfl, rfl⟩ := i
    simpa using fin
theorem q_lc {mi : IM} {vs : List Nat} {gm : GM} : (mLc mi vs gm t me en S).sat P ↔ (mi en S).sat fun it S1 => (lcM it.nxt gm t me (wipeE en vs) it.n 0 [] S1).sat fun l S2 => P (.lst l) S2 := by
  unfold mLc
  rw [r_bind]
  refine iff_of_eq (congrArg _ (funext fun it => funext fun S1 => ?_))
  cases lcM it.nxt gm t me (wipeE en vs) it.n 0 [] S1 <;> simp only [r_ok, r_exc, r_stuck, s_nx, s_rt, s_bk, s_ct, s_ex, s_st]
theorem q_lcC {mi : IM} {vs : List Nat} {gm : GM} : (mLcC mi vs gm t me en S).sat P ↔ (mi en S).sat fun it S1 => (lcM it.nxt gm t me (wipeE en vs) it.n 0 [] S1).sat fun l S2 => P (.ref S2.length) (S2 ++ [.lst l]) := by
  unfold mLcC
  rw [r_bind]
  refine iff_of_eq (congrArg _ (funext fun it => funext fun S1 => ?_))
  cases lcM it.nxt gm t me (wipeE en vs) it.n 0 [] S1 <;> simp only [r_ok, r_exc, r_stuck, s_nx, s_rt, s_bk, s_ct, s_ex, s_st]
theorem wh_inv {t : BM} {b : SM} (I : Nat → En → Sto → Prop) (step : ∀ n en S, I n en S → (t en S).sat fun c S1 => if c = true then (b en S1).sat (fun en2 S2 => ∃ m, m < n ∧ I m en2 S2) R else N en S1) {n : Nat} (h0 : I n en S) : (sWh t b en S).sat N R := by
  induction n using Nat.strongRecOn generalizing en S with
  | _ n ih =>
    have := step n en S h0
    rw [sWh_eq, p_bS]
    refine this.mono fun c S1 z => ?_
    by_cases hc : c = true
    · rw [if_pos hc] at z ⊢
      cases q : b en S1 with
      | next en2 S2 =>
        rw [q, s_nx] at z
        obtain ⟨m, hm, im⟩ := z
        exact ih m hm im
      | ret d S2 => rw [q, s_rt] at z; exact s_rt.mpr z
      | brk en2 S2 => rw [q, s_bk] at z; exact z.elim
      | cnt en2 S2 => rw [q, s_ct] at z; exact z.elim
      | exc c fs en2 S2 => rw [q, s_ex] at z; exact z.elim
      | stuck => rw [q, s_st] at z; exact z.elim
    · rw [if_neg hc] at z ⊢
      exact s_nx.mpr z
end
end Ag

namespace Ag
open PySem
/-! ### plain facts: equality, fractions, sizes -/
theorem sat_eq {α : Type} {r : Res α} {a : α} {S : Sto} (h : r.sat fun v S' => v = a ∧ S' = S) : r = .ok a S := by
  obtain ⟨v, S', rfl, rfl, rfl⟩ := h.eq
  rfl
theorem eq_sat {α : Type} {r : Res α} {a : α} {S : Sto} {P : α → Sto → Prop} (h : r = .ok a S) (p : P a S) : r.sat P := by rw [h, r_ok]; exact p
theorem sh_int (i : Int) : SeqAt.shaped (.int i) = true := by simp [SeqAt.shaped, PyData.canLay0, PyData.depth]
theorem ne_int (x y : Int) (S : Sto) : fNe (.int x) (.int y) S = some (.bl (decide (x ≠ y))) := by
  simp only [fNe, neD, pyS, D.py, sh_int, and_self, if_true, PyData.eqv]
  by_cases h : x = y <;> simp [h]
theorem eq_int (x y : Int) (S : Sto) : fEq (.int x) (.int y) S = some (.bl (decide (x = y))) := by
  simp only [fEq, eqD, pyS, D.py, sh_int, and_self, if_true, PyData.eqv]
  by_cases h : x = y <;> simp [h]
mutual
theorem eqv_refl : ∀ p : PyData, p.canLay0 = true → PyData.eqv p p = true
  | .none, _ => by simp only [PyData.eqv]
  | .bool b, _ => by simp only [PyData.eqv, beq_self_eq_true]
  | .int b, _ => by simp only [PyData.eqv, beq_self_eq_true]
  | .str b, _ => by simp only [PyData.eqv, beq_self_eq_true]
  | .list xs, h => by
    simp only [PyData.eqv]
    exact eqvAll_refl xs (by simpa [PyData.canLay0] using h)
  | .tuple xs, h => by
    simp only [PyData.eqv]
    exact eqvAll_refl xs (by simpa [PyData.canLay0] using h)
  | .dict _, h => by simp [PyData.canLay0] at h
theorem eqvAll_refl : ∀ ps : List PyData, PyData.canLayAll0 ps = true → PyData.eqvAll ps ps = true
  | [], _ => by simp only [PyData.eqvAll]
  | p :: ps, h => by
    simp only [PyData.canLayAll0, Bool.and_eq_true] at h
    simp only [PyData.eqvAll, eqv_refl p h.1, eqvAll_refl ps h.2, Bool.and_self]
end
/-- plain data of a small depth -/
def Pl (d : D) : Prop := ∃ p, d.py = some p ∧ SeqAt.shaped p = true
theorem pyS_py {d : D} {p : PyData} {S : Sto} (h : d.py = some p) : pyS d S = some p := by
  cases d with
  | ref i => simp [D.py] at h
  | _ => exact h
theorem ne_same {d : D} (h : Pl d) (S : Sto) : fNe d d S = some (.bl false) := by
  obtain ⟨p, h1, h2⟩ := h
  have e : neD d d S = some (.bl false) := by simp only [neD, pyS_py h1, h2, and_self, if_true, eqv_refl p (SeqAt.canLay_of_shaped h2), Bool.not_true]
  cases d with
  | str x => simp [fNe]
  | _ => exact e
theorem eq_same {d : D} (h : Pl d) (S : Sto) : fEq d d S = some (.bl true) := by
  obtain ⟨p, h1, h2⟩ := h
  have e : eqD d d S = some (.bl true) := by simp only [eqD, pyS_py h1, h2, and_self, if_true, eqv_refl p (SeqAt.canLay_of_shaped h2)]
  cases d with
  | str x => simp [fEq]
  | _ => exact e
/-- depth bounded: flat, two levels, three levels -/
def Dp (k : Nat) (d : D) : Prop := ∃ p, d.py = some p ∧ p.canLay0 = true ∧ p.depth ≤ k
theorem Dp.pl {k : Nat} {d : D} (h : Dp k d) (hk : k ≤ 64) : Pl d := by
  obtain ⟨p, h1, h2, h3⟩ := h
  exact ⟨p, h1, by simp only [SeqAt.shaped, h2, Bool.true_and, decide_eq_true_eq]; omega⟩
theorem Dp.mono {k j : Nat} {d : D} (h : Dp k d) (hk : k ≤ j) : Dp j d := by
  obtain ⟨p, h1, h2, h3⟩ := h
  exact ⟨p, h1, h2, by omega⟩
theorem dp_int (i : Int) : Dp 0 (.int i) := ⟨.int i, rfl, by simp [PyData.canLay0], by simp [PyData.depth]⟩
theorem dp_bl (b : Bool) : Dp 0 (.bl b) := ⟨.bool b, rfl, by simp [PyData.canLay0], by simp [PyData.depth]⟩
theorem dps {k : Nat} : ∀ {l : List D}, (∀ d ∈ l, Dp k d) → ∃ ps, D.pys l = some ps ∧ PyData.canLayAll0 ps = true ∧ PyData.depthAll ps ≤ k
  | [], _ => ⟨[], rfl, by simp [PyData.canLayAll0], by simp [PyData.depthAll]⟩
  | d :: l, h => by
    obtain ⟨p, h1, h2, h3⟩ := h d (by simp)
    obtain ⟨ps, g1, g2, g3⟩ := dps (l := l) fun c hc => h c (by simp [hc])
    exact ⟨p :: ps, by simp only [D.pys, h1, g1], by simp [PyData.canLayAll0, h2, g2], by simp only [PyData.depthAll]; omega⟩
theorem dp_tup {k : Nat} {l : List D} (h : ∀ d ∈ l, Dp k d) : Dp (k + 1) (.tup l) := by
  obtain ⟨ps, h1, h2, h3⟩ := dps h
  exact ⟨.tuple ps, by simp only [D.py, h1, Option.map_some], by simpa [PyData.canLay0] using h2, by simp only [PyData.depth]; omega⟩
theorem dp_lst {k : Nat} {l : List D} (h : ∀ d ∈ l, Dp k d) : Dp (k + 1) (.lst l) := by
  obtain ⟨ps, h1, h2, h3⟩ := dps h
  exact ⟨.list ps, by simp only [D.py, h1, Option.map_some], by simpa [PyData.canLay0] using h2, by simp only [PyData.depth]; omega⟩
/-! fractions -/
def frac (q : Rat) : D := .tup [.int q.num, .int (q.den : Nat)]
theorem dp_frac (q : Rat) : Dp 1 (frac q) := dp_tup fun d hd => by
  simp only [List.mem_cons, List.not_mem_nil, or_false] at hd
  rcases hd with rfl | rfl <;> exact dp_int _
theorem frac_mk (t : Int) {b : Nat} (hb : b ≠ 0) : frac (mkRat t b) = .tup [.int (t / ((t.natAbs.gcd b : Nat) : Int)), .int ((b : Int) / ((t.natAbs.gcd b : Nat) : Int))] := by
  have e : mkRat t b = Rat.normalize t b hb := by unfold mkRat; rw [dif_neg hb]
  rw [e, Rat.normalize_eq]
  simp [frac]
/-! sizes -/
theorem log2_lt {n k : Nat} (h : n < 2 ^ k) (hk : 0 < k) : n.log2 < k := by
  by_cases h0 : n = 0
  · subst h0; simpa using hk
  · exact (Nat.log2_lt h0).mpr h
theorem mulOk_of {x y : Int} {a b : Nat} (hx : x.natAbs < 2 ^ a) (hy : y.natAbs < 2 ^ b) (ha : 0 < a) (hb : 0 < b) (h : a + b < 1000000) : mulOk x y = true := by
  have h1 := log2_lt hx ha
  have h2 := log2_lt hy hb
  have h3 : x.natAbs.log2 + y.natAbs.log2 < 1000000 := by omega
  simp [mulOk, h3]
theorem divOk_of {j : Int} {a : Nat} (h0 : 0 < j) (h : j.natAbs < 2 ^ a) (ha : 0 < a) (h9 : a ≤ 9000) : divOk j = true := by
  have h1 := log2_lt h ha
  have h2 : j.natAbs.log2 < 9000 := by omega
  simp [divOk, h0, h2]
theorem natAbs_mul_lt {x y : Int} {a b : Nat} (hx : x.natAbs < 2 ^ a) (hy : y.natAbs < 2 ^ b) : (x * y).natAbs < 2 ^ (a + b) := by
  rw [Int.natAbs_mul, Nat.pow_add]
  exact Nat.mul_lt_mul'' hx hy
theorem lt_pow {n a b : Nat} (h : n < 2 ^ a) (hab : a ≤ b) : n < 2 ^ b := Nat.lt_of_lt_of_le h (Nat.pow_le_pow_right (by decide) hab)
/-- z over M, z small -/
def Rp (M B : Nat) (q : Rat) : Prop := ∃ z : Int, q = mkRat z M ∧ z.natAbs ≤ B
theorem Rp.den {M B : Nat} {q : Rat} (hM : 0 < M) (h : Rp M B q) : q.den ≤ M := by
  obtain ⟨z, rfl, _⟩ := h
  have hb : M ≠ 0 := by omega
  have e : mkRat z M = Rat.normalize z M hb := by unfold mkRat; rw [dif_neg hb]
  rw [e, Rat.normalize_eq]
  exact Nat.div_le_self _ _
theorem Rp.num {M B : Nat} {q : Rat} (hM : 0 < M) (h : Rp M B q) : q.num.natAbs ≤ B := by
  obtain ⟨z, rfl, hz⟩ := h
  have hb : M ≠ 0 := by omega
  have e : mkRat z M = Rat.normalize z M hb := by unfold mkRat; rw [dif_neg hb]
  rw [e, Rat.normalize_eq]
  refine Nat.le_trans ?_ hz
  show (z / ((z.natAbs.gcd M : Nat) : Int)).natAbs ≤ z.natAbs
  exact Int.natAbs_ediv_le_natAbs _ _
theorem mkRat_div (z : Int) (M : Nat) : mkRat z M = (z : Rat) / (M : Rat) := Rat.mkRat_eq_div z M
theorem Rp.add {M B C : Nat} {p q : Rat} (hM : 0 < M) (h : Rp M B p) (g : Rp M C q) : Rp M (B + C) (p + q) := by
  obtain ⟨x, rfl, hx⟩ := h
  obtain ⟨y, rfl, hy⟩ := g
  refine ⟨x + y, ?_, by omega⟩
  have hm : (M : Rat) ≠ 0 := by simpa using (show M ≠ 0 by omega)
  simp only [mkRat_div, Rat.intCast_add]
  grind
theorem Rp.mulI {M B : Nat} {q : Rat} (h : Rp M B q) (w : Int) : Rp M (w.natAbs * B) (q * (w : Rat)) := by
  obtain ⟨x, rfl, hx⟩ := h
  refine ⟨x * w, ?_, ?_⟩
  · simp only [mkRat_div, Rat.intCast_mul]
    grind
  · rw [Int.natAbs_mul, Nat.mul_comm]
    exact Nat.mul_le_mul_left _ hx
theorem Rp.zero {M : Nat} : Rp M 0 0 := ⟨0, by simp only [mkRat_div]; grind, by simp⟩
/-- over a sum, to a common measure -/
theorem Rp.divN {M B s L : Nat} {q : Rat} (hs : 0 < s) (hd : s ∣ L) (hL : 0 < L) (h : Rp M (s * B) q) : Rp (M * L) (B * L) (q / (s : Rat)) := by
  obtain ⟨x, rfl, hx⟩ := h
  obtain ⟨c, rfl⟩ := hd
  refine ⟨x * c, ?_, ?_⟩
  · have h1 : (s : Rat) ≠ 0 := by simpa using (show s ≠ 0 by omega)
    have h2 : (c : Rat) ≠ 0 := by
      have : c ≠ 0 := by intro z; subst z; simp at hL
      simpa using this
    simp only [mkRat_div, Rat.intCast_mul, Rat.natCast_mul, Rat.intCast_natCast]
    grind
  · rw [Int.natAbs_mul, Int.natAbs_natCast]
    calc x.natAbs * c ≤ s * B * c := Nat.mul_le_mul_right _ hx
      _ = B * (s * c) := by rw [Nat.mul_comm s B, Nat.mul_assoc]
theorem Rp.up {M B L : Nat} {q : Rat} (hL : 0 < L) (h : Rp M B q) : Rp (M * L) (B * L) q := by
  have := Rp.divN (s := 1) (L := L) (by decide) (Nat.one_dvd _) hL (B := B) (by simpa using h)
  have e : q / ((1 : Nat) : Rat) = q := by grind
  rw [e] at this
  exact this
end Ag

namespace Ag
open PySem
theorem gcd_step (x y : Int) (hx : 0 ≤ x) (hy : 0 < y) : (x % y).natAbs.gcd y.natAbs = x.natAbs.gcd y.natAbs := by
  obtain ⟨a, rfl⟩ := Int.eq_ofNat_of_zero_le hx
  obtain ⟨b, rfl⟩ := Int.eq_ofNat_of_zero_le (Int.le_of_lt hy)
  have e : ((a : Int) % (b : Int)).natAbs = a % b := by rw [← Int.natCast_emod, Int.natAbs_natCast]
  rw [e]
  simp only [Int.natAbs_natCast]
  rw [← Nat.gcd_rec, Nat.gcd_comm]
theorem div_top {t b g : Int} (hb : 0 < b) (e : g = ((t.natAbs.gcd b.natAbs : Nat) : Int)) : D.tup [.int (t / g), .int (b / g)] = frac ((t : Rat) / (b : Rat)) := by
  obtain ⟨n, rfl⟩ := Int.eq_ofNat_of_zero_le (Int.le_of_lt hb)
  have hn : n ≠ 0 := by intro z; subst z; simp at hb
  subst e
  have := frac_mk t hn
  rw [mkRat_div] at this
  simp only [Int.natAbs_natCast, Rat.intCast_natCast]
  exact this.symm
theorem at_k {α : Type} (l : List α) (k : Nat) : L2.atI l (k : Int) = l[k]? := by
  unfold L2.atI L2.ixN
  rw [if_pos (by omega)]
  by_cases h : k < l.length
  · rw [if_pos (by omega)]; simp
  · rw [if_neg (by omega), List.getElem?_eq_none (by omega)]; rfl
theorem ix_k (l : List D) (k : Nat) (S : Sto) : fIx (.tup l) (.int (k : Int)) S = l[k]? := at_k l k
theorem ix_0 (a : D) (l : List D) (S : Sto) : fIx (.tup (a :: l)) (.int 0) S = some a := ix_k (a :: l) 0 S
theorem ix_1 (a b : D) (l : List D) (S : Sto) : fIx (.tup (a :: b :: l)) (.int 1) S = some b := ix_k (a :: b :: l) 1 S
theorem num_den (q : Rat) : ((q.num : Int) : Rat) / ((q.den : Nat) : Rat) = q := by
  rw [← mkRat_div]
  exact Rat.mkRat_self q
theorem den_pos (q : Rat) : 0 < ((q.den : Nat) : Int) := by have := q.den_nz; omega
def dot : List Rat → List Int → Rat
  | t :: ts, w :: ws => t * (w : Rat) + dot ts ws
  | _, _ => 0
theorem dot_step : ∀ (ts : List Rat) (ws : List Int) (k : Nat) (t : Rat) (w : Int), ts[k]? = some t → ws[k]? = some w → dot (ts.take (k + 1)) (ws.take (k + 1)) = dot (ts.take k) (ws.take k) + t * (w : Rat)
  | [], _, k, t, w, h, _ => by simp at h
  | _ :: _, [], k, t, w, _, h => by simp at h
  | x :: ts, y :: ws, 0, t, w, h1, h2 => by
    simp only [List.getElem?_cons_zero, Option.some.injEq] at h1 h2
    subst h1 h2
    simp only [List.take_succ_cons, List.take_zero, dot]
    grind
  | x :: ts, y :: ws, k + 1, t, w, h1, h2 => by
    simp only [List.getElem?_cons_succ] at h1 h2
    have := dot_step ts ws k t w h1 h2
    simp only [List.take_succ_cons, dot] at this ⊢
    rw [this]
    grind
theorem sum_take_le : ∀ (ws : List Int) (k : Nat), (∀ w ∈ ws, 0 ≤ w) → 0 ≤ (ws.take k).sum ∧ (ws.take k).sum ≤ ws.sum
  | [], k, _ => by simp
  | w :: ws, 0, h => by
    have := sum_take_le ws ws.length fun z hz => h z (by simp [hz])
    have h0 := h w (by simp)
    simp only [List.take_length] at this
    simp only [List.take_zero, List.sum_nil, List.sum_cons]
    omega
  | w :: ws, k + 1, h => by
    have := sum_take_le ws k fun z hz => h z (by simp [hz])
    have h0 := h w (by simp)
    simp only [List.take_succ_cons, List.sum_cons]
    omega
theorem sum_step : ∀ (ws : List Int) (k : Nat) (w : Int), ws[k]? = some w → (ws.take (k + 1)).sum = (ws.take k).sum + w
  | [], k, w, h => by simp at h
  | x :: ws, 0, w, h => by
    simp only [List.getElem?_cons_zero, Option.some.injEq] at h
    subst h; simp
  | x :: ws, k + 1, w, h => by
    simp only [List.getElem?_cons_succ] at h
    have := sum_step ws k w h
    simp only [List.take_succ_cons, List.sum_cons] at this ⊢
    omega
structure Day (ts : List Rat) (ws : List Int) (M B a : Nat) : Prop where
  len : ws.length = ts.length
  nn : ∀ w ∈ ws, 0 ≤ w
  pos : 0 < ws.sum
  s64 : ws.sum.natAbs < 2 ^ 64
  m0 : 0 < M
  ma : M < 2 ^ a
  ba : ws.sum.natAbs * B < 2 ^ a
  rp : ∀ t ∈ ts, Rp M B t
  a0 : 0 < a
  a4 : a ≤ 4000
variable {ts : List Rat} {ws : List Int} {M B a : Nat}
theorem Day.dot (h : Day ts ws M B a) : ∀ k, k ≤ ts.length → Rp M ((ws.take k).sum.natAbs * B) (dot (ts.take k) (ws.take k))
  | 0, _ => by simpa [Ag.dot] using Rp.zero
  | k + 1, hk => by
    have h1 : ts[k]? = some ts[k] := List.getElem?_eq_getElem (by omega)
    have h2 : ws[k]? = some (ws[k]'(by rw [h.len]; omega)) := List.getElem?_eq_getElem (by rw [h.len]; omega)
    rw [dot_step ts ws k _ _ h1 h2, sum_step ws k _ h2]
    have ih := h.dot k (by omega)
    have r := (h.rp _ (List.mem_of_getElem? h1)).mulI (ws[k]'(by rw [h.len]; omega))
    have := Rp.add h.m0 ih r
    have h3 := (sum_take_le ws k h.nn).1
    have h4 := h.nn _ (List.mem_of_getElem? h2)
    rw [← Nat.add_mul] at this
    rwa [show ((ws.take k).sum + ws[k]'(by rw [h.len]; omega)).natAbs = (ws.take k).sum.natAbs + (ws[k]'(by rw [h.len]; omega)).natAbs by omega]
theorem rp_le {B C : Nat} {q : Rat} (h : Rp M B q) (hb : B ≤ C) : Rp M C q := by
  obtain ⟨z, e, hz⟩ := h
  exact ⟨z, e, by omega⟩
theorem Day.part (h : Day ts ws M B a) {k : Nat} (hk : k ≤ ts.length) : (Ag.dot (ts.take k) (ws.take k)).den < 2 ^ a ∧ (Ag.dot (ts.take k) (ws.take k)).num.natAbs < 2 ^ a := by
  have h1 := h.dot k hk
  have h2 := sum_take_le ws k h.nn
  have h3 := (rp_le h1 (C := ws.sum.natAbs * B) (Nat.mul_le_mul_right _ (by omega)))
  exact ⟨Nat.lt_of_le_of_lt (h3.den h.m0) h.ma, Nat.lt_of_le_of_lt (h3.num h.m0) h.ba⟩
theorem mem_le_sum : ∀ {ws : List Int}, (∀ w ∈ ws, 0 ≤ w) → ∀ w ∈ ws, w ≤ ws.sum
  | [], _, w, hw => by simp at hw
  | x :: ws, h, w, hw => by
    have h0 := h x (by simp)
    have hs := (sum_take_le ws 0 fun z hz => h z (by simp [hz]))
    simp only [List.take_zero, List.sum_nil] at hs
    rcases List.mem_cons.mp hw with rfl | hw
    · simp only [List.sum_cons]; omega
    · have := mem_le_sum (fun z hz => h z (by simp [hz])) w hw
      simp only [List.sum_cons]; omega
theorem Day.one (h : Day ts ws M B a) {t : Rat} {w : Int} (ht : t ∈ ts) (hw : w ∈ ws) : (t * (w : Rat)).den < 2 ^ a ∧ (t * (w : Rat)).num.natAbs < 2 ^ a ∧ t.den < 2 ^ a ∧ w.natAbs < 2 ^ 64 := by
  have h0 := h.nn w hw
  have h1 := mem_le_sum h.nn w hw
  have h3 := rp_le ((h.rp t ht).mulI w) (C := ws.sum.natAbs * B) (Nat.mul_le_mul_right _ (by omega))
  have := h.s64
  exact ⟨Nat.lt_of_le_of_lt (h3.den h.m0) h.ma, Nat.lt_of_le_of_lt (h3.num h.m0) h.ba, Nat.lt_of_le_of_lt ((h.rp t ht).den h.m0) h.ma, by omega⟩
theorem mulOk_r {x y : Int} (h : y.natAbs < 2 ^ 64) : mulOk x y = true := by
  unfold mulOk
  rw [decide_eq_true h]
  simp
theorem ints_map : ∀ ws : List Int, isInts (ws.map .int) = some ws
  | [] => rfl
  | w :: ws => by simp [isInts, ints_map ws]
theorem sum_tup (ws : List Int) (S : Sto) : gSum (.tup (ws.map .int)) S = some (.int ws.sum) := by simp [gSum, ints_map]
theorem div_mul_cast {t : Rat} {w : Int} : (((t.num * w : Int) : Rat)) / ((((t.den : Nat) : Int) : Rat)) = t * (w : Rat) := by
  have ex := num_den t
  have nx : ((t.den : Nat) : Rat) ≠ 0 := by have := t.den_nz; simpa using this
  simp only [Rat.intCast_mul, Rat.intCast_natCast]
  generalize (t.num : Rat) = tn at *
  generalize ((t.den : Nat) : Rat) = td at *
  subst ex
  grind
theorem div_den_mul {q : Rat} {s : Int} (hs : 0 < s) : ((q.num : Rat)) / (((((q.den : Nat) : Int) * s : Int) : Rat)) = q / (s : Rat) := by
  have ex := num_den q
  have nx : ((q.den : Nat) : Rat) ≠ 0 := by have := q.den_nz; simpa using this
  have ns : (s : Rat) ≠ 0 := by
    have : s ≠ 0 := by omega
    simpa using this
  simp only [Rat.intCast_mul, Rat.intCast_natCast]
  generalize (q.num : Rat) = tn at *
  generalize ((q.den : Nat) : Rat) = td at *
  generalize (s : Rat) = sr at *
  subst ex
  grind
theorem rg1_len (n : Nat) (S : Sto) (h : n < 2 ^ 62) : rg1 [.int (n : Int)] S = some (rgIt 0 n) := by
  have e : rgB (n : Int) = true := by simp [rgB]; omega
  simp [rg1, rgOf, e]
theorem add_frac {x t : Rat} {w : Int} : (((x.num * ((t.den : Nat) : Int) + t.num * w * ((x.den : Nat) : Int) : Int)) : Rat) / (((((x.den : Nat) : Int) * ((t.den : Nat) : Int) : Int)) : Rat) = x + t * (w : Rat) := by
  have ex := num_den x
  have et := num_den t
  have nx : ((x.den : Nat) : Rat) ≠ 0 := by have := x.den_nz; simpa using this
  have nt : ((t.den : Nat) : Rat) ≠ 0 := by have := t.den_nz; simpa using this
  simp only [Rat.intCast_mul, Rat.intCast_add, Rat.intCast_natCast]
  generalize (x.num : Rat) = xn at *
  generalize (t.num : Rat) = tn at *
  generalize ((x.den : Nat) : Rat) = xd at *
  generalize ((t.den : Nat) : Rat) = td at *
  generalize (w : Rat) = wr at *
  subst ex et
  grind

theorem eqv_str (x y : Str) : PyData.eqv (.str x) (.str y) = decide (x = y) := by
  simp only [PyData.eqv]
  by_cases h : x = y <;> simp [h]
theorem pys_strs : ∀ hs : List Str, D.pys (hs.map .str) = some (hs.map .str)
  | [] => rfl
  | h :: hs => by simp [D.pys, D.py, pys_strs hs]
theorem lay_strs : ∀ {hs : List Str}, (∀ h ∈ hs, PyData.strOk h = true) → PyData.canLayAll0 (hs.map .str) = true ∧ PyData.depthAll (hs.map .str) = 0
  | [], _ => ⟨rfl, rfl⟩
  | h :: hs, k => by
    obtain ⟨a, b⟩ := lay_strs (hs := hs) fun z hz => k z (by simp [hz])
    simp [PyData.canLayAll0, PyData.canLay0, PyData.depthAll, PyData.depth, a, b, k h (by simp)]
theorem in_strs {x : Str} {hs : List Str} (S : Sto) (hx : PyData.strOk x = true) (h : ∀ y ∈ hs, PyData.strOk y = true) : fIn (.str x) (.tup (hs.map .str)) S = some (.bl (decide (x ∈ hs))) := by
  obtain ⟨a, b⟩ := lay_strs h
  have e1 : SeqAt.shaped (.str x) = true := by simp [SeqAt.shaped, PyData.canLay0, PyData.depth, hx]
  have e2 : SeqAt.shaped (.tuple (hs.map .str)) = true := by simp [SeqAt.shaped, PyData.canLay0, PyData.depth, a, b]
  simp only [fIn, inD, pyS, D.py, pys_strs, Option.map_some, e1, e2, and_self, if_true]
  congr 2
  rw [List.any_map]
  have : ((fun z => PyData.eqv z (.str x)) ∘ PyData.str) = fun z => decide (z = x) := funext fun z => eqv_str z x
  rw [this]
  by_cases hm : x ∈ hs
  · rw [decide_eq_true hm, List.any_eq_true]
    exact ⟨x, hm, by simp⟩
  · rw [decide_eq_false hm, List.any_eq_false]
    intro z hz
    have : z ≠ x := fun e => hm (e ▸ hz)
    simp [this]
theorem cut_take (l : List D) (k : Nat) : cutD l none (some (k : Int)) = l.take k := by
  simp only [cutD, HT.sIx_none, HT.sIx_nat, List.drop_zero, Nat.sub_zero]
  by_cases h : k ≤ l.length
  · rw [Nat.min_eq_left h]
  · rw [Nat.min_eq_right (by omega), List.take_of_length_le (Nat.le_refl _), List.take_of_length_le (by omega)]
theorem eq_len0 {α : Type} {l : List α} (h : l ≠ []) : ((l.length : Int) = 0) = False := by
  have := List.length_pos_iff.mpr h
  simp; exact h
def rowD (r : List Int) : D := .tup (r.map .int)
def wayD (w : List (List Int)) : D := .tup (w.map rowD)
structure RowOk (n : Nat) (r : List Int) : Prop where
  len : r.length = n
  in_ : ∀ w ∈ r, 0 ≤ w ∧ w ≤ 1000000000
  pos : 0 < r.sum
structure WayOk (n : Nat) (w : List (List Int)) : Prop where
  len : w.length = n
  row : ∀ r ∈ w, RowOk n r
theorem all_true (n : Nat) (S : Sto) : f1 gAll [.lst (List.replicate n (.bl true))] S = some (.bl true) := by
  have : ∀ n, isBls (List.replicate n (D.bl true)) = some (List.replicate n true) := by
    intro n
    induction n with
    | zero => rfl
    | succ n ih => simp [List.replicate_succ, isBls, ih]
  simp [f1, gAll, rdOf, lstOf, this]
theorem map_true {α : Type} {l : List α} {h : α → D} (k : ∀ d ∈ l, h d = .bl true) : l.map h = List.replicate l.length (.bl true) := by
  induction l with
  | nil => rfl
  | cons x l ih => simp [k x (by simp), ih fun d hd => k d (by simp [hd]), List.replicate_succ]
theorem len_line {n : Nat} (h : n < 1000) : n ≤ lineN := by unfold lineN; omega
def Nr (d : D) : Prop := ∀ n, below n d = true
theorem nrs {l : List D} (h : ∀ d ∈ l, Nr d) (n : Nat) : belows n l = true := by
  induction l with
  | nil => rfl
  | cons d l ih => simp [belows, h d (by simp) n, ih fun c hc => h c (by simp [hc])]
theorem nr_int (i : Int) : Nr (.int i) := fun _ => rfl
theorem nr_str (x : Str) : Nr (.str x) := fun _ => rfl
theorem nr_tup {l : List D} (h : ∀ d ∈ l, Nr d) : Nr (.tup l) := fun n => by simp only [below]; exact nrs h n
theorem nr_lst {l : List D} (h : ∀ d ∈ l, Nr d) : Nr (.lst l) := fun n => by simp only [below]; exact nrs h n
theorem nr_map {α : Type} {l : List α} {f : α → D} (h : ∀ a, Nr (f a)) : ∀ d ∈ l.map f, Nr d := fun d hd => by
  obtain ⟨a, _, rfl⟩ := List.mem_map.mp hd
  exact h a
theorem nr_row (r : List Int) : Nr (rowD r) := nr_tup (nr_map nr_int)
theorem nr_way (w : List (List Int)) : Nr (wayD w) := nr_tup (nr_map nr_row)
theorem nr_frac (q : Rat) : Nr (frac q) := fun n => rfl
def Cl (S : Sto) : Prop := ∀ o ∈ S, ∀ n, o.below n = true
theorem cl_all {S : Sto} (h : Cl S) (n : Nat) : S.all (Ob.below n) = true := List.all_eq_true.mpr fun o ho => h o ho n
def cncl (hs : List Str) (ws : List (List (List Int))) : D := .obj "Council" ["heads", "tables"] [.tup (hs.map .str), .tup (ws.map wayD)]
theorem p_fld {cs : List Str} {f : Str} {mo mv : EM} {en : En} {S : Sto} {N : En → Sto → Prop} {R : D → Sto → Prop} (h : (mv en S).sat fun d S1 => (mo en S1).sat fun o S2 => ∃ i c ns l r, o = .ref i ∧ S2[i]? = some (.ins c ns l) ∧ c ∈ cs ∧ ns.length < 1000 ∧ putL f d ns l = some r ∧ N en (S2.set i (.ins c r.1 r.2))) : (sFldM cs f mo mv en S).sat N R := by
  unfold sFldM
  rw [p_eS]
  refine h.mono fun d S1 h1 => ?_
  rw [p_eS]
  refine h1.mono fun o S2 h2 => ?_
  obtain ⟨i, c, ns, l, r, rfl, e, hc, hn, hp, k⟩ := h2
  simp only [e, hc, hn, and_self, if_true, hp]
  exact s_nx.mpr k
theorem ne_nil (S : Sto) : fNe (.tup []) (.tup []) S = some (.bl false) := ne_same ⟨.tuple [], rfl, rfl⟩ S
theorem cls_c (hs : List Str) (ws : List (List (List Int))) (S : Sto) : clsD (cncl hs ws) S = some ("Council" : Str) := rfl
def wordD (p : List Nat) : D := .tup (p.map fun (k : Nat) => .int (k : Int))
def dayR (w : List (List Int)) (ts : List Rat) : List Rat := w.map fun r => dot ts r / (r.sum : Rat)
def walkR (ws : List (List (List Int))) (p : List Nat) (ts : List Rat) : List Rat := p.foldl (fun ts k => dayR (ws.getD k []) ts) ts
/-- d days old: sizes -/
def Sz (n d : Nat) (ts : List Rat) : Prop := ts.length = n ∧ ∃ M B : Nat, 0 < M ∧ M < 2 ^ (12 + 198 * d) ∧ B < 2 ^ (112 + 198 * d) ∧ ∀ t ∈ ts, Rp M B t
theorem RowOk.sum_lt {n : Nat} {r : List Int} (h : RowOk n r) (hn : n ≤ 6) : r.sum.natAbs < 2 ^ 33 := by
  have : ∀ l : List Int, (∀ w ∈ l, 0 ≤ w ∧ w ≤ 1000000000) → l.sum ≤ 1000000000 * (l.length : Int) ∧ 0 ≤ l.sum := by
    intro l
    induction l with
    | nil => intro _; simp
    | cons x l ih =>
      intro k
      have h1 := ih fun w hw => k w (by simp [hw])
      have h2 := k x (by simp)
      simp only [List.sum_cons, List.length_cons]
      omega
  have h1 := this r h.in_
  rw [h.len] at h1
  have : (2 : Nat) ^ 33 = 8589934592 := by decide
  omega
theorem Sz.day {n d : Nat} {ts : List Rat} (h : Sz n d ts) {r : List Int} (hr : RowOk n r) (hn : n ≤ 6) (hd : d ≤ 18) : ∃ M B, Day ts r M B (145 + 198 * d) := by
  obtain ⟨hl, M, B, h0, h1, h2, h3⟩ := h
  refine ⟨M, B, ⟨hr.len.trans hl.symm, fun w hw => (hr.in_ w hw).1, hr.pos, lt_pow (hr.sum_lt hn) (by decide), h0, lt_pow h1 (by omega), ?_, h3, by omega, by omega⟩⟩
  have := Nat.mul_lt_mul'' (hr.sum_lt hn) h2
  rw [← Nat.pow_add] at this
  exact lt_pow this (by omega)
theorem prod_dvd : ∀ {l : List Nat} {x : Nat}, x ∈ l → x ∣ l.prod
  | [], x, h => by simp at h
  | y :: l, x, h => by
    rw [List.prod_cons]
    rcases List.mem_cons.mp h with rfl | h
    · exact Nat.dvd_mul_right _ _
    · exact Nat.dvd_trans (prod_dvd h) (Nat.dvd_mul_left _ _)
theorem prod_le : ∀ (l : List Nat), (∀ x ∈ l, 0 < x ∧ x < 2 ^ 33) → 0 < l.prod ∧ l.prod ≤ 2 ^ (33 * l.length)
  | [], _ => by simp
  | y :: l, h => by
    obtain ⟨h1, h2⟩ := prod_le l fun x hx => h x (by simp [hx])
    obtain ⟨h3, h4⟩ := h y (by simp)
    rw [List.prod_cons, List.length_cons, show 33 * (l.length + 1) = 33 + 33 * l.length by omega, Nat.pow_add]
    exact ⟨Nat.mul_pos h3 h1, Nat.mul_le_mul (Nat.le_of_lt h4) h2⟩
theorem Sz.next {n d : Nat} {ts : List Rat} (h : Sz n d ts) {w : List (List Int)} (hw : WayOk n w) (hn : n ≤ 6) (hd : d ≤ 18) : Sz n (d + 1) (dayR w ts) := by
  obtain ⟨hl, M, B, h0, h1, h2, h3⟩ := id h
  obtain ⟨l1, l2⟩ := prod_le (w.map fun r => r.sum.natAbs) (by
    intro x hx
    obtain ⟨r, hr, rfl⟩ := List.mem_map.mp hx
    have := (hw.row r hr).pos
    exact ⟨by omega, (hw.row r hr).sum_lt hn⟩)
  have l3 : (w.map fun r => r.sum.natAbs).prod ≤ 2 ^ 198 := Nat.le_trans l2 (Nat.pow_le_pow_right (by decide) (by rw [List.length_map, hw.len]; omega))
  refine ⟨by simp [dayR, hw.len], M * (w.map fun r => r.sum.natAbs).prod, B * (w.map fun r => r.sum.natAbs).prod, Nat.mul_pos h0 l1, ?_, ?_, ?_⟩
  · rw [show 12 + 198 * (d + 1) = (12 + 198 * d) + 198 by omega, Nat.pow_add]
    exact Nat.mul_lt_mul_of_lt_of_le h1 l3 (Nat.pow_pos (by decide))
  · rw [show 112 + 198 * (d + 1) = (112 + 198 * d) + 198 by omega, Nat.pow_add]
    exact Nat.mul_lt_mul_of_lt_of_le h2 l3 (Nat.pow_pos (by decide))
  · intro t ht
    obtain ⟨r, hr, rfl⟩ := List.mem_map.mp ht
    obtain ⟨M', B', D'⟩ := h.day (hw.row r hr) hn hd
    have hp := (hw.row r hr).pos
    have dd : Day ts r M B (145 + 198 * d) := ⟨D'.len, D'.nn, D'.pos, D'.s64, h0, lt_pow h1 (by omega), by
      have := Nat.mul_lt_mul'' ((hw.row r hr).sum_lt hn) h2
      rw [← Nat.pow_add] at this
      exact lt_pow this (by omega), h3, by omega, by omega⟩
    have e := dd.dot ts.length (Nat.le_refl _)
    rw [List.take_length, show r.take ts.length = r by rw [← dd.len, List.take_length]] at e
    have := Rp.divN (s := r.sum.natAbs) (by omega) (prod_dvd (List.mem_map.mpr ⟨r, hr, rfl⟩)) l1 e
    rw [show ((r.sum.natAbs : Nat) : Rat) = (r.sum : Rat) by
      rw [← Rat.intCast_natCast]
      congr 1
      omega] at this
    exact this
theorem Sz.den {n d : Nat} {ts : List Rat} (h : Sz n d ts) : ∀ t ∈ ts, t.den < 2 ^ (12 + 198 * d) ∧ t.num.natAbs < 2 ^ (112 + 198 * d) := fun t ht => by
  obtain ⟨hl, M, B, h0, h1, h2, h3⟩ := h
  exact ⟨Nat.lt_of_le_of_lt ((h3 t ht).den h0) h1, Nat.lt_of_le_of_lt ((h3 t ht).num h0) h2⟩
theorem tup_lst (l : List D) (S : Sto) : f1 gTup [.lst l] S = some (.tup l) := rfl
theorem map_get {α β : Type} {l : List α} {f : α → β} {k : Nat} {d : β} (h : (l.map f)[k]? = some d) : ∃ a, a ∈ l ∧ l[k]? = some a ∧ d = f a := by
  rw [List.getElem?_map] at h
  obtain ⟨a, ha, rfl⟩ := Option.map_eq_some_iff.mp h
  exact ⟨a, List.mem_of_getElem? ha, ha, rfl⟩
theorem getD_mem {ws : List (List (List Int))} {k : Nat} (h : k < ws.length) : ws.getD k [] ∈ ws ∧ ws[k]? = some (ws.getD k []) := by
  have e : ws.getD k [] = ws[k] := by simp [List.getD, List.getElem?_eq_getElem h]
  rw [e]
  exact ⟨List.getElem_mem h, List.getElem?_eq_getElem h⟩
theorem walk_sz {n : Nat} {ws : List (List (List Int))} (hw : ∀ w ∈ ws, WayOk n w) (hn : n ≤ 6) : ∀ (p : List Nat) {d : Nat} {ts : List Rat}, Sz n d ts → (∀ k ∈ p, k < ws.length) → d + p.length ≤ 18 → Sz n (d + p.length) (walkR ws p ts)
  | [], d, ts, h, _, _ => h
  | k :: p, d, ts, h, hp, hd => by
    simp only [List.length_cons] at hd ⊢
    have := walk_sz hw hn p (h.next (hw _ (getD_mem (hp k (by simp))).1) hn (by omega)) (fun j hj => hp j (by simp [hj])) (by omega)
    rw [show d + (p.length + 1) = d + 1 + p.length by omega]
    exact this
theorem walk_step (ws : List (List (List Int))) (p : List Nat) (ts : List Rat) {k : Nat} {j : Nat} (h : p[k]? = some j) : walkR ws (p.take (k + 1)) ts = dayR (ws.getD j []) (walkR ws (p.take k) ts) := by
  unfold walkR
  rw [List.take_add_one, h, List.foldl_append]
  rfl
structure Jg (S : Sto) (i : Nat) : Prop where
  cl : Cl S
  at_ : ∃ a b c : Int, S[i]? = some (.lst [.int a, .int b, .int c])
/-- what was there stands, but for the jug -/
structure Ex (S S' : Sto) (i : Nat) : Prop where
  len : S.length ≤ S'.length
  jg : Jg S' i
  oth : ∀ j, j < S.length → j ≠ i → S'[j]? = S[j]?
structure Lk (S S' : Sto) (i : Nat) : Prop extends Ex S S' i where
  same : S'.length = S.length
theorem Jg.lt {S : Sto} {i : Nat} (h : Jg S i) : i < S.length := by
  obtain ⟨a, b, c, e⟩ := h.at_
  exact (List.getElem?_eq_some_iff.mp e).1
theorem Ex.refl {S : Sto} {i : Nat} (h : Jg S i) : Ex S S i := ⟨Nat.le_refl _, h, fun _ _ _ => rfl⟩
theorem Lk.refl {S : Sto} {i : Nat} (h : Jg S i) : Lk S S i := ⟨.refl h, rfl⟩
theorem Ex.trans {S S1 S2 : Sto} {i : Nat} (a : Ex S S1 i) (b : Ex S1 S2 i) : Ex S S2 i := ⟨Nat.le_trans a.len b.len, b.jg, fun j hj hi => by rw [b.oth j (Nat.lt_of_lt_of_le hj a.len) hi, a.oth j hj hi]⟩
theorem Lk.trans {S S1 S2 : Sto} {i : Nat} (a : Lk S S1 i) (b : Lk S1 S2 i) : Lk S S2 i := ⟨a.toEx.trans b.toEx, b.same.trans a.same⟩
theorem Ex.cut {S S' : Sto} {i : Nat} (h : Ex S S' i) (hi : i < S.length) : Lk S (S'.take S.length) i := by
  have hl : (S'.take S.length).length = S.length := by rw [List.length_take]; have := h.len; omega
  refine ⟨⟨by omega, ⟨fun o ho => h.jg.cl o (List.mem_of_mem_take ho), ?_⟩, fun j hj hji => ?_⟩, hl⟩
  · obtain ⟨a, b, c, e⟩ := h.jg.at_
    exact ⟨a, b, c, by rw [List.getElem?_take_of_lt hi]; exact e⟩
  · rw [List.getElem?_take_of_lt hj]; exact h.oth j hj hji
theorem cl_set {S : Sto} {i : Nat} {o : Ob} (h : Cl S) (ho : ∀ n, o.below n = true) : Cl (S.set i o) := fun x hx => by
  rcases List.mem_or_eq_of_mem_set hx with hx | rfl
  · exact h x hx
  · exact ho
theorem cl_app {S : Sto} {o : Ob} (h : Cl S) (ho : ∀ n, o.below n = true) : Cl (S ++ [o]) := fun x hx => by
  rcases List.mem_append.mp hx with hx | hx
  · exact h x hx
  · have : x = o := by simpa using hx
    subst this; exact ho
theorem bel_lst {l : List D} (h : ∀ d ∈ l, Nr d) : ∀ n, (Ob.lst l).below n = true := fun n => nrs h n
theorem Lk.put {S : Sto} {i : Nat} (h : Jg S i) (a b c : Int) : Lk S (S.set i (.lst [.int a, .int b, .int c])) i :=
  ⟨⟨by simp, ⟨cl_set h.cl (bel_lst fun d hd => by
    simp only [List.mem_cons, List.not_mem_nil, or_false] at hd
    rcases hd with rfl | rfl | rfl <;> exact nr_int _), a, b, c, by simp [h.lt]⟩, fun j _ hj => by rw [List.getElem?_set_ne (Ne.symm hj)]⟩, by simp⟩
/-- a local cell is written -/
theorem Ex.put {S S' : Sto} {i j : Nat} {o : Ob} (h : Ex S S' i) (hj : S.length ≤ j) (hi : i < S.length) (ho : ∀ n, o.below n = true) : Ex S (S'.set j o) i := by
  refine ⟨by simpa using h.len, ⟨cl_set h.jg.cl ho, ?_⟩, fun k hk hki => by rw [List.getElem?_set_ne (by omega)]; exact h.oth k hk hki⟩
  obtain ⟨a, b, c, e⟩ := h.jg.at_
  exact ⟨a, b, c, by rw [List.getElem?_set_ne (by omega)]; exact e⟩
theorem Ex.add {S S' : Sto} {i : Nat} {o : Ob} (h : Ex S S' i) (ho : ∀ n, o.below n = true) : Ex S (S' ++ [o]) i := by
  have hi := h.jg.lt
  refine ⟨by simp; have := h.len; omega, ⟨cl_app h.jg.cl ho, ?_⟩, fun k hk hki => by rw [List.getElem?_append_left (by have := h.len; omega)]; exact h.oth k hk hki⟩
  obtain ⟨a, b, c, e⟩ := h.jg.at_
  exact ⟨a, b, c, by rw [List.getElem?_append_left hi]; exact e⟩
theorem rd_ref {S : Sto} {i : Nat} {l : List D} (h : S[i]? = some (.lst l)) : rdOf (.ref i) S = some l := by simp [rdOf, lstOf, h]
theorem ls_ref {S : Sto} {i : Nat} {l : List D} (h : S[i]? = some (.lst l)) : lstOf (.ref i) S = some l := by simp [lstOf, h]
theorem ix_ref {S : Sto} {i : Nat} {l : List D} (h : S[i]? = some (.lst l)) (k : Nat) : fIx (.ref i) (.int (k : Int)) S = l[k]? := by
  have : fIx (.ref i) (.int (k : Int)) S = (rdOf (.ref i) S).bind fun l => L2.atI l (k : Int) := rfl
  rw [this, rd_ref h]
  exact at_k l k
theorem ix_lst (l : List D) (k : Nat) (S : Sto) : fIx (.lst l) (.int (k : Int)) S = l[k]? := at_k l k
theorem set_ref {S : Sto} {i : Nat} {l : List D} (h : S[i]? = some (.lst l)) {k : Nat} (hk : k < l.length) (d : D) : fSet (.ref i) (.int (k : Int)) d S = some (S.set i (.lst (l.set k d))) := by
  have e : L2.ixN l.length (k : Int) = some k := by
    unfold L2.ixN
    rw [if_pos (by omega), if_pos (by omega)]; simp
  simp [fSet, h, e]
theorem set_get {S : Sto} {i : Nat} {x o : Ob} (h : S[i]? = some x) : (S.set i o)[i]? = some o := by
  have := (List.getElem?_eq_some_iff.mp h).1
  simp [this]
theorem f_scop {f : List D → Sto → Res D} {ds : List D} {S : Sto} {P : D → Sto → Prop} (h : (f ds S).sat fun d S' => ((S'.take S.length).all (Ob.below S.length)) = true ∧ osat (frzD S.length S' d) fun d' => P d' (S'.take S.length)) : (scop f ds S).sat P := by
  obtain ⟨d, S', q, h1, h2⟩ := h.eq
  unfold scop
  rw [q]
  simp only [cutR, h1, if_true]
  cases q2 : frzD S.length S' d with
  | none => rw [q2, os_none] at h2; exact h2.elim
  | some d' => rw [q2, os_some] at h2; exact r_ok.mpr h2
theorem frzF_nr {n : Nat} {S : Sto} {d : D} (h : Nr d) (f : Nat) : frzF n S f d = some d := by
  have hb := h n
  cases f with
  | zero => cases d <;> exact (if_pos hb : (if below n _ = true then some _ else none) = some _)
  | succ f =>
    cases d with
    | ref i => exact absurd (h 0) (by simp [below])
    | _ => exact (if_pos hb : (if below n _ = true then some _ else none) = some _)
theorem frz_nr {n : Nat} {S : Sto} {d : D} (h : Nr d) : frzD n S d = some d := frzF_nr h 3
theorem optAll_nr {n : Nat} {S : Sto} {f : Nat} : ∀ {l : List D}, (∀ d ∈ l, Nr d) → optAll (frzF n S f) l = some l
  | [], _ => rfl
  | d :: l, h => by
    have ih : optAll (frzF n S f) l = some l := optAll_nr fun c hc => h c (List.mem_cons_of_mem _ hc)
    simp only [optAll, frzF_nr (h d List.mem_cons_self), ih]
    rfl
/-- the end of a def with cells of its own -/
theorem scop_ok {f : List D → Sto → Res D} {ds : List D} {S : Sto} {i : Nat} {P : D → Prop} (hi : i < S.length) (h : (f ds S).sat fun d S' => P d ∧ Nr d ∧ Ex S S' i) : (scop f ds S).sat fun d S' => P d ∧ Lk S S' i := by
  refine f_scop (h.mono fun d S' ⟨h1, h2, h3⟩ => ?_)
  refine ⟨cl_all (h3.cut hi).jg.cl _, ?_⟩
  rw [frz_nr h2, os_some]
  exact ⟨h1, h3.cut hi⟩
theorem sum_ref {S : Sto} {n : Nat} {r : List Int} (h : S[n]? = some (.lst (r.map .int))) : gSum (.ref n) S = some (.int r.sum) := by
  have : gSum (.ref n) S = ((rdOf (.ref n) S).bind isInts).map fun ns => .int ns.sum := rfl
  rw [this, rd_ref h]
  simp [ints_map]
theorem tup_ref {S : Sto} {n : Nat} {l : List D} (h : S[n]? = some (.lst l)) : f1 gTup [.ref n] S = some (.tup l) := by
  have : f1 gTup [.ref n] S = (rdOf (.ref n) S).map fun l => .tup l := rfl
  rw [this, rd_ref h]; rfl
theorem range_len (n : Nat) : ((List.range n).map fun k => D.int (0 + (k : Nat))).length = n := by simp
def pool : List Str := ["ann", "bob", "cyd", "d2", "e", "z9999999", "abe", "x"]
theorem pool_ok : ∀ h ∈ pool, PyData.strOk h = true := by
  intro h hh
  simp only [pool, List.mem_cons, List.not_mem_nil, or_false] at hh
  rcases hh with rfl | rfl | rfl | rfl | rfl | rfl | rfl | rfl <;> decide +kernel
theorem pool_nd : pool.Nodup := by decide +kernel
theorem len_ref {S : Sto} {n : Nat} {l : List D} (h : S[n]? = some (.lst l)) : gLen (.ref n) S = some (.int l.length) := by
  have : gLen (.ref n) S = (rdOf (.ref n) S).map fun l => .int l.length := rfl
  rw [this, rd_ref h]; rfl
theorem ok_ref {S : Sto} {n : Nat} {l : List D} (h : S[n]? = some (.lst l)) : okLst (.ref n) S = true := by unfold okLst; rw [ls_ref h]; rfl
theorem pop_ref {S : Sto} {n : Nat} {l : List D} (h : S[n]? = some (.lst l)) {k : Nat} {d : D} (hk : l[k]? = some d) : fPopAt (.ref n) [.int (k : Int)] S = some (d, S.set n (.lst (l.eraseIdx k))) := by
  have hl := (List.getElem?_eq_some_iff.mp hk).1
  have e : L2.ixN l.length (k : Int) = some k := by
    unfold L2.ixN
    rw [if_pos (by omega), if_pos (by omega)]; simp
  simp [fPopAt, h, e, hk]
theorem app_ref {S : Sto} {n : Nat} {l : List D} (h : S[n]? = some (.lst l)) (hl : l.length < lineN) (d : D) : fAppend (.ref n) [d] S = some (.non, S.set n (.lst (l ++ [d]))) := by
  simp [fAppend, h, hl]
theorem erase_map {α β : Type} (f : α → β) : ∀ (l : List α) (k : Nat), (l.map f).eraseIdx k = (l.eraseIdx k).map f
  | [], _ => by simp
  | x :: l, 0 => by simp
  | x :: l, k + 1 => by simp [erase_map f l k]
theorem erase_perm {α : Type} : ∀ {l : List α} {k : Nat} (h : k < l.length), (l[k] :: l.eraseIdx k).Perm l
  | x :: l, 0, h => by simp
  | x :: l, k + 1, h => by
    simp only [List.getElem_cons_succ, List.eraseIdx_cons_succ]
    have := erase_perm (l := l) (k := k) (by simpa using h)
    exact (List.Perm.swap x _ _).trans (this.cons x)
theorem shown_int {i : Int} {k : Nat} (hk : 0 < k) (h : i.natAbs < 2 ^ k) : (PyData.shown (.int i)).length ≤ k + 1 := by
  have p : (2 : Nat) ^ k ≤ 10 ^ k := Nat.pow_le_pow_left (by decide) k
  cases i with
  | ofNat n =>
    simp only [PyData.shown]
    have := PyProof.Rows.toString_length_le (v := (n : Int)) (by omega) hk (by
      have h2 : n < 10 ^ k := Nat.lt_of_lt_of_le (by simpa using h) p
      exact_mod_cast h2)
    exact Nat.le_succ_of_le this
  | negSucc n =>
    simp only [PyData.shown]
    have := PyProof.Rows.toString_length_le (v := ((n + 1 : Nat) : Int)) (by omega) hk (by
      have h2 : n + 1 < 10 ^ k := Nat.lt_of_lt_of_le (by simpa using h) p
      exact_mod_cast h2)
    rw [PyProof.Rows.ofString_length] at this ⊢
    have e : (toString (Int.negSucc n)).toList.length = (toString ((n + 1 : Nat) : Int)).toList.length + 1 := by
      show ("-" ++ toString (n + 1)).toList.length = (toString (n + 1)).toList.length + 1
      rw [String.toList_append]
      simp
    omega
theorem tuple_len (ts : List Str) {B : Nat} (h : ∀ t ∈ ts, t.length ≤ B) : (tupleText ts).length ≤ 3 + (B + 2) * ts.length := by
  unfold tupleText
  rw [strLen_append, strLen_append]
  have e1 : ((("(" : String) : Str)).length = 1 := rfl
  have e3 : (((if ts.length == 1 then ",)" else ")" : String) : Str)).length ≤ 2 := by split <;> decide
  have pl : piled ts ≤ (B + 2) * ts.length := by
    clear e3
    induction ts with
    | nil => simp [piled]
    | cons t ts ih =>
      rw [piled_cons, List.length_cons, Nat.mul_add]
      have h1 := ih fun x hx => h x (by simp [hx])
      have h2 := h t (by simp)
      omega
  by_cases h0 : ts = []
  · subst h0
    have : (Str.join ", " []).length = 0 := rfl
    omega
  · have := join_length_add ts h0
    omega
def fracP (q : Rat) : PyData := .tuple [.int q.num, .int (q.den : Nat)]
theorem pys_frac : ∀ us : List Rat, D.pys (us.map frac) = some (us.map fracP)
  | [] => rfl
  | u :: us => by simp [D.pys, frac, D.py, pys_frac us, fracP]
theorem add_int (i j : Int) (S : Sto) : fAdd (.int i) (.int j) S = some (.int (i + j)) := rfl
theorem pl_th (ts : List Rat) : Pl (.tup (ts.map frac)) := (dp_tup (k := 1) fun d hd => by
  obtain ⟨q, _, rfl⟩ := List.mem_map.mp hd
  exact dp_frac q).pl (by decide)

theorem len_scr (l : List D) (S : Sto) : gLen (.scr l) S = some (.int l.length) := rfl
theorem ix_scr (l : List D) (k : Nat) (S : Sto) : fIx (.scr l) (.int (k : Int)) S = l[k]? := at_k l k
theorem cut_6 (l : List D) : cutD l none (some 6) = l.take 6 := cut_take l 6
theorem rg1_4 (S : Sto) : rg1 [.int 4] S = some (rgIt 0 4) := rg1_len 4 S (by decide)
def sumTo : Nat → (Nat → Rat) → Rat
  | 0, _ => 0
  | n + 1, f => sumTo n f + f n
def atR (v : List Rat) (k : Nat) : Rat := v.getD k 0
structure Few (xs : List Rat) (M B a : Nat) : Prop where
  m0 : 0 < M
  ma : M < 2 ^ a
  ba : xs.length * B < 2 ^ a
  rp : ∀ x ∈ xs, Rp M B x
  a0 : 0 < a
  a4 : a ≤ 4000
theorem Few.part {xs : List Rat} {M B a : Nat} (h : Few xs M B a) : ∀ k, k ≤ xs.length → Rp M (k * B) (sumTo k (atR xs))
  | 0, _ => by simpa [sumTo] using Rp.zero
  | k + 1, hk => by
    have h1 : xs[k]? = some xs[k] := List.getElem?_eq_getElem (by omega)
    have ih := h.part k (by omega)
    have := Rp.add h.m0 ih (h.rp _ (List.mem_of_getElem? h1))
    simp only [sumTo]
    rw [show atR xs k = xs[k] by simp [atR, List.getD, h1], Nat.succ_mul]
    exact this/-! ### loops over a typed list -/
section
variable {P : D → Sto → Prop} {PL : List D → Sto → Prop} {PB : Bool → Sto → Prop} {N : En → Sto → Prop} {R : D → Sto → Prop} {en : En} {S : Sto} {me : EM} {t : BM}
theorem for_T {α : Type} {xs : List α} {e : α → D} {it : ItD} {gm : GM} {b : SM} (hl : LIt it (xs.map e)) (I : Nat → En → Sto → Prop) (h0 : I 0 en S) (step : ∀ k x en S, xs[k]? = some x → x ∈ xs → I k en S → (gm (e x) en S).sat fun en1 S1 => (b en1 S1).sat (I (k + 1)) R) (fin : ∀ en S, I xs.length en S → N en S) :
    (forM it.nxt gm b it.n 0 en S).sat N R := by
  refine for_inv hl I (fun k d en S hd i => ?_) (fun en S i => fin en S (by simpa using i)) h0
  obtain ⟨a, hm, ha, rfl⟩ := map_get hd
  exact step k a en S ha hm i
theorem lc_T {α : Type} {xs : List α} {e : α → D} {it : ItD} {gm : GM} (hl : LIt it (xs.map e)) (I : Nat → List D → Sto → Prop) (h0 : I 0 [] S) (step : ∀ k x acc S, xs[k]? = some x → x ∈ xs → I k acc S → (gm (e x) en S).sat fun en1 S1 => (t en1 S1).sat fun c S2 => if c = true then (me en1 S2).sat fun y S3 => acc.length < lineN ∧ I (k + 1) (acc ++ [y]) S3 else I (k + 1) acc S2)
    (fin : ∀ acc S, I xs.length acc S → PL acc S) : (lcM it.nxt gm t me en it.n 0 [] S).sat PL := by
  refine lc_inv hl I (fun k d acc S hd i => ?_) (fun acc S i => fin acc S (by simpa using i)) h0
  obtain ⟨a, hm, ha, rfl⟩ := map_get hd
  exact step k a acc S ha hm i
theorem lc_mapT {α : Type} {xs : List α} {e g : α → D} {it : ItD} {gm : GM} (hl : LIt it (xs.map e)) (hlen : xs.length ≤ lineN) (step : ∀ x ∈ xs, (gm (e x) en S).sat fun en1 S1 => (me en1 S1).sat fun y S2 => y = g x ∧ S2 = S) (fin : PL (xs.map g) S) : (lcM it.nxt gm mYes me en it.n 0 [] S).sat PL := by
  refine lc_T hl (fun k acc S' => acc = (xs.take k).map g ∧ S' = S) ⟨by simp, rfl⟩ (fun k x acc S' hx hm i => ?_) (fun acc S' i => ?_)
  · obtain ⟨rfl, rfl⟩ := i
    have hk := (List.getElem?_eq_some_iff.mp hx).1
    refine (step x hm).mono fun en1 S1 z => ?_
    simp only [mYes, r_ok, if_pos]
    refine z.mono fun y S2 q => ⟨by simp; omega, ?_, q.2⟩
    rw [q.1, List.take_add_one, hx]
    simp
  · obtain ⟨rfl, rfl⟩ := i
    simpa using fin
theorem lc_filT {α : Type} {xs : List α} {e g : α → D} {p : α → Bool} {it : ItD} {gm : GM} (hl : LIt it (xs.map e)) (hlen : xs.length ≤ lineN) (step : ∀ x ∈ xs, (gm (e x) en S).sat fun en1 S1 => (t en1 S1).sat fun c S2 => c = p x ∧ S2 = S ∧ (c = true → (me en1 S2).sat fun y S3 => y = g x ∧ S3 = S)) (fin : PL ((xs.filter p).map g) S) : (lcM it.nxt gm t me en it.n 0 [] S).sat PL := by
  refine lc_T hl (fun k acc S' => acc = ((xs.take k).filter p).map g ∧ S' = S) ⟨by simp, rfl⟩ (fun k x acc S' hx hm i => ?_) (fun acc S' i => ?_)
  · obtain ⟨rfl, rfl⟩ := i
    have hk := (List.getElem?_eq_some_iff.mp hx).1
    refine (step x hm).mono fun en1 S1 z => ?_
    refine z.mono fun c S2 q => ?_
    obtain ⟨rfl, rfl, q⟩ := q
    by_cases hc : p x = true
    · rw [if_pos hc]
      refine (q hc).mono fun y S3 q => ⟨?_, ?_, q.2⟩
      · have := List.length_filter_le p (xs.take k)
        rw [List.length_map]
        rw [List.length_take] at this
        omega
      · rw [q.1, List.take_add_one, hx, List.filter_append]
        simp [hc]
    · rw [if_neg hc]
      refine ⟨?_, rfl⟩
      rw [List.take_add_one, hx, List.filter_append]
      simp [hc]
  · obtain ⟨rfl, rfl⟩ := i
    simpa using fin
end
theorem li_rg0 (n : Nat) : LIt (rgIt 0 n) ((List.range n).map fun (k : Nat) => .int (k : Int)) := by
  have h := li_rg 0 n
  have e : ((List.range n).map fun (k : Nat) => D.int (0 + (k : Nat))) = ((List.range n).map fun (k : Nat) => .int (k : Int)) := List.map_congr_left fun k _ => by simp
  rw [e] at h
  exact h
theorem li_enT {α : Type} (xs : List α) (e : α → D) : LIt (enIt (xs.map e)) (xs.zipIdx.map fun p => .tup [.int (p.2 : Int), e p.1]) := by
  have h := li_en (xs.map e)
  have q : ((xs.map e).mapIdx fun k d => D.tup [.int (k : Nat), d]) = (xs.zipIdx.map fun p => .tup [.int (p.2 : Int), e p.1]) := by
    apply List.ext_getElem?
    intro k
    simp only [List.getElem?_mapIdx, List.getElem?_map, List.getElem?_zipIdx]
    cases xs[k]? <;> simp
  rw [q] at h
  exact h
/-! a def with cells of its own that leaves the store -/
theorem scop_pure {f : List D → Sto → Res D} {ds : List D} {S : Sto} {v : D} (hS : Cl S) (h : (f ds S).sat fun d S' => d = v ∧ Nr d ∧ S'.take S.length = S) : scop f ds S = .ok v S := by
  refine sat_eq (f_scop (h.mono fun d S' ⟨h1, h2, h3⟩ => ?_))
  rw [h3]
  refine ⟨cl_all hS _, ?_⟩
  rw [frz_nr h2, os_some]
  exact ⟨h1, rfl⟩
theorem app_end {S : Sto} {l : List D} (h : l.length < lineN) (d : D) : fAppend (.ref S.length) [d] (S ++ [.lst l]) = some (.non, S ++ [.lst (l ++ [d])]) := by
  rw [app_ref (l := l) (by simp) h]
  simp
theorem at_end {S : Sto} {l : List D} : (S ++ [Ob.lst l])[S.length]? = some (.lst l) := by simp
section
variable {PL : List D → Sto → Prop} {N : En → Sto → Prop} {R : D → Sto → Prop} {en : En} {S : Sto} {me : EM} {t : BM} {gm : GM}
theorem lc_ref {n : Nat} {l : List D} (h : S[n]? = some (.lst l)) (I : Nat → List D → Sto → Prop) (keep : ∀ k acc S, I k acc S → S[n]? = some (.lst l)) (h0 : I 0 [] S)
    (step : ∀ k d acc S, l[k]? = some d → I k acc S → (gm d en S).sat fun en1 S1 => (t en1 S1).sat fun c S2 => if c = true then (me en1 S2).sat fun y S3 => acc.length < lineN ∧ I (k + 1) (acc ++ [y]) S3 else I (k + 1) acc S2)
    (fin : ∀ acc S, I l.length acc S → PL acc S) : osat (itOf (.ref n) S) fun it => (lcM it.nxt gm t me en it.n 0 [] S).sat PL := by
  simp only [itOf, h, os_some]
  have key : ∀ f k acc S, f + k = l.length → I k acc S → (lcM (fun k S' => match S'[n]? with
      | some (.lst l') => some l'[k]?
      | _ => none) gm t me en f k acc S).sat PL := by
    intro f
    induction f with
    | zero =>
      intro k acc S e i
      have e2 : k = l.length := by omega
      subst e2
      simp only [lcM, keep _ _ _ i, List.getElem?_eq_none (Nat.le_refl _), r_ok]
      exact fin _ _ i
    | succ f ih =>
      intro k acc S e i
      have hk : k < l.length := by omega
      have hx := List.getElem?_eq_getElem hk
      have := step k _ acc S hx i
      simp only [lcM, keep _ _ _ i, hx]
      cases q : gm l[k] en S with
      | ok en1 S1 =>
        rw [q, r_ok] at this
        simp only
        cases q2 : t en1 S1 with
        | ok c S2 =>
          rw [q2, r_ok] at this
          simp only
          by_cases hc : c = true
          · rw [if_pos hc] at this ⊢
            cases q3 : me en1 S2 with
            | ok y S3 =>
              rw [q3, r_ok] at this
              simp only
              rw [if_pos this.1]
              exact ih (k + 1) _ S3 (by omega) this.2
            | exc c fs S3 => rw [q3, r_exc] at this; exact this.elim
            | stuck => rw [q3, r_stuck] at this; exact this.elim
          · rw [if_neg hc] at this ⊢
            exact ih (k + 1) _ S2 (by omega) this
        | exc c fs S2 => rw [q2, r_exc] at this; exact this.elim
        | stuck => rw [q2, r_stuck] at this; exact this.elim
      | exc c fs S1 => rw [q, r_exc] at this; exact this.elim
      | stuck => rw [q, r_stuck] at this; exact this.elim
  exact key l.length 0 [] S rfl h0
end
end Ag

namespace Ag
open PySem
section
variable (S : Sto)
theorem b_bl (b : Bool) : bOf (.bl b) = some b := rfl
theorem it_tup (l : List D) : itOf (.tup l) S = some (lsIt l) := rfl
theorem it_lst (l : List D) : itOf (.lst l) S = some (lsIt l) := rfl
theorem it_scr (l : List D) : itOf (.scr l) S = some (lsIt l) := rfl
theorem it_word (p : List Nat) : itOf (wordD p) S = some (lsIt (p.map fun (k : Nat) => .int (k : Int))) := rfl
theorem it_row (p : List Int) : itOf (rowD p) S = some (lsIt (p.map .int)) := rfl
theorem it_way (p : List (List Int)) : itOf (wayD p) S = some (lsIt (p.map rowD)) := rfl
theorem sq_tup (l : List D) : seqOf (.tup l) S = some l := rfl
theorem sq_lst (l : List D) : seqOf (.lst l) S = some l := rfl
theorem n_tup (l : List D) : gLen (.tup l) S = some (.int l.length) := rfl
theorem n_lst (l : List D) : gLen (.lst l) S = some (.int l.length) := rfl
theorem n_scr (l : List D) : gLen (.scr l) S = some (.int l.length) := rfl
theorem n_word (p : List Nat) : gLen (wordD p) S = some (.int p.length) := by show some (D.int (List.length _)) = _; rw [List.length_map]
theorem n_row (p : List Int) : gLen (rowD p) S = some (.int p.length) := by show some (D.int (List.length _)) = _; rw [List.length_map]
theorem n_way (p : List (List Int)) : gLen (wayD p) S = some (.int p.length) := by show some (D.int (List.length _)) = _; rw [List.length_map]
theorem i_int (i : Int) : intD (.int i) = some i := rfl
theorem sl_tup (l : List D) (a b : Option Int) : fSl (.tup l) a b S = some (.tup (cutD l a b)) := rfl
theorem sl_lst (l : List D) (a b : Option Int) : fSl (.lst l) a b S = some (.lst (cutD l a b)) := rfl
theorem c_int (p : Int → Int → Bool) (i j : Int) : cmpI p (.int i) (.int j) S = some (.bl (p i j)) := rfl
theorem en_tup (l : List D) : en1 [.tup l] S = some (enIt l) := rfl
theorem en_lst (l : List D) : en1 [.lst l] S = some (enIt l) := rfl
theorem zp_tup (l r : List D) : zp2 [.tup l, .tup r] S = some (zpIt l r) := rfl
theorem zp_mix (l r : List D) : zp2 [.tup l, .lst r] S = some (zpIt l r) := rfl
theorem zp_lst (l r : List D) : zp2 [.lst l, .lst r] S = some (zpIt l r) := rfl
theorem f_1 (g : D → Sto → Option D) (d : D) : f1 g [d] S = g d S := rfl
theorem m_yes (en : En) : mYes en S = .ok true S := rfl
theorem w_0 (en : En) : wipeE en [] = en := rfl
theorem w_s (en : En) (i : Nat) (l : List Nat) : wipeE en (i :: l) = (wipeE en l).set i none := rfl
theorem bind_s {α β : Type} (a : α) (f : α → Option β) : (some a).bind f = f a := rfl
theorem a_int (i j : Int) : fAdd (.int i) (.int j) S = some (.int (i + j)) := rfl
theorem s_int (i j : Int) : fSub (.int i) (.int j) S = some (.int (i - j)) := rfl
theorem g_ii (i : Int) : gInt (.int i) S = some (.int i) := rfl
theorem g_ib (b : Bool) : gInt (.bl b) S = some (.int (if b then 1 else 0)) := rfl
theorem is_non (d : D) : fIs d .non S = some (.bl (isNon d)) := by cases d <;> rfl
theorem isnt_non (d : D) : fIsNot d .non S = some (.bl (!isNon d)) := by cases d <;> rfl
end
theorem t_lst (l : List D) (S : Sto) : gTup (.lst l) S = some (.tup l) := rfl
theorem t_tup (l : List D) (S : Sto) : gTup (.tup l) S = some (.tup l) := rfl
/-! ### texts of data: sizes -/
theorem list_len (ts : List Str) {B : Nat} (h : ∀ t ∈ ts, t.length ≤ B) : (listText ts).length ≤ 2 + (B + 2) * ts.length := by
  have key : ∀ (ts : List Str) (i : Nat) (acc : Str), (∀ t ∈ ts, t.length ≤ B) → (textFrom i acc ts).length ≤ acc.length + (B + 2) * ts.length := by
    intro ts
    induction ts with
    | nil => intro i acc _; simp only [textFrom, List.length_nil]; omega
    | cons t ts ih =>
      intro i acc h
      have h1 := ih (i + 1) (acc ++ (if i > 0 then ", " else "" : String) ++ t) fun x hx => h x (by simp [hx])
      have h2 := h t (by simp)
      simp only [textFrom, List.length_cons]
      simp only [strLen_append] at h1
      have e : (((if i > 0 then ", " else "" : String) : Str)).length ≤ 2 := by split <;> decide
      rw [Nat.mul_add]
      omega
  unfold listText
  rw [strLen_append]
  have a1 : ((("[" : String) : Str)).length = 1 := rfl
  have a2 : ((("]" : String) : Str)).length = 1 := rfl
  have := key ts 0 "[" h
  omega
structure Rb (k B : Nat) (d : D) : Prop where
  ex : ∃ p, d.py = some p ∧ p.showable = true ∧ p.hasDict = false ∧ p.depth ≤ k ∧ (PyData.shown p).length ≤ B
theorem Rb.up {k B k' B' : Nat} {d : D} (h : Rb k B d) (hk : k ≤ k') (hB : B ≤ B') : Rb k' B' d := by
  obtain ⟨p, a, b, c, e, f⟩ := h.ex
  exact ⟨p, a, b, c, by omega, by omega⟩
theorem rb_int {i : Int} {k : Nat} (hk : 0 < k) (h : i.natAbs < 2 ^ k) (h9 : k ≤ 1920) : Rb 0 (k + 1) (.int i) := by
  refine ⟨.int i, rfl, ?_, rfl, by simp [PyData.depth], shown_int hk h⟩
  have g1 := log2_lt h hk
  simp only [PyData.showable, decide_eq_true_eq]
  omega
theorem rb_all {k B : Nat} : ∀ {l : List D}, (∀ d ∈ l, Rb k B d) → ∃ ps, D.pys l = some ps ∧ PyData.showableAll ps = true ∧ PyData.hasDictAll ps = false ∧ PyData.depthAll ps ≤ k ∧ (PyData.shownAll ps).length = l.length ∧ ∀ t ∈ PyData.shownAll ps, t.length ≤ B
  | [], _ => ⟨[], rfl, rfl, rfl, by simp [PyData.depthAll], by simp [PyData.shownAll], by simp [PyData.shownAll]⟩
  | d :: l, h => by
    obtain ⟨p, a, b, c, e, f⟩ := (h d (by simp)).ex
    obtain ⟨ps, a2, b2, c2, e2, f2, g2⟩ := rb_all (l := l) fun c hc => h c (by simp [hc])
    refine ⟨p :: ps, by simp only [D.pys, a, a2], by simp [PyData.showableAll, b, b2], by simp [PyData.hasDictAll, c, c2], by simp only [PyData.depthAll]; omega, by simp [PyData.shownAll, f2], fun t ht => ?_⟩
    simp only [PyData.shownAll, List.mem_cons] at ht
    rcases ht with rfl | ht
    · exact f
    · exact g2 t ht
theorem rb_tup {k B n : Nat} {l : List D} (h : ∀ d ∈ l, Rb k B d) (hn : l.length ≤ n) : Rb (k + 1) (3 + (B + 2) * n) (.tup l) := by
  obtain ⟨ps, a, b, c, e, f, g⟩ := rb_all h
  refine ⟨.tuple ps, by simp only [D.py, a, Option.map_some], by simp only [PyData.showable, b], by simp only [PyData.hasDict, c], by simp only [PyData.depth]; omega, ?_⟩
  simp only [PyData.shown]
  refine Nat.le_trans (tuple_len _ g) ?_
  rw [f]
  exact Nat.add_le_add_left (Nat.mul_le_mul_left _ hn) _
theorem rb_lst {k B n : Nat} {l : List D} (h : ∀ d ∈ l, Rb k B d) (hn : l.length ≤ n) : Rb (k + 1) (3 + (B + 2) * n) (.lst l) := by
  obtain ⟨ps, a, b, c, e, f, g⟩ := rb_all h
  refine ⟨.list ps, by simp only [D.py, a, Option.map_some], by simp only [PyData.showable, b], by simp only [PyData.hasDict, c], by simp only [PyData.depth]; omega, ?_⟩
  simp only [PyData.shown]
  refine Nat.le_trans (list_len _ g) ?_
  rw [f]
  have := Nat.mul_le_mul_left (B + 2) hn
  omega
theorem repr_rb {k B : Nat} {d : D} (h : Rb k B d) (hk : k ≤ 60) (hB : B ≤ 16000000) (S : Sto) : ∃ t, gRepr d S = some (.str t) := by
  obtain ⟨p, a, b, c, e, f⟩ := h.ex
  refine ⟨PyData.shown p, ?_⟩
  unfold gRepr
  rw [pyS_py a]
  simp only
  rw [if_pos]
  refine ⟨b, c, by omega, ?_⟩
  unfold lineN
  omega
/-! ### tables of shares -/
def thD (ts : List Rat) : D := .tup (ts.map frac)
def tabD (T : List (List Rat)) : D := .tup (T.map thD)
theorem nr_th (ts : List Rat) : Nr (thD ts) := nr_tup (nr_map nr_frac)
theorem pl_tab (T : List (List Rat)) : Pl (tabD T) := (dp_tup (k := 2) fun d hd => by
  obtain ⟨q, _, rfl⟩ := List.mem_map.mp hd
  exact dp_tup (k := 1) fun d hd => by
    obtain ⟨q, _, rfl⟩ := List.mem_map.mp hd
    exact dp_frac q).pl (by decide)
end Ag

/-! ### t[::-1] -/
namespace HT
open PySem PySem.Spec PyProof.Rows L2
section
variable {prog : Program} {w : World} {A : Around} {E : Value → Shared → Prop} {s : Shared}
end
end HT
namespace Ag
open PySem PySem.Spec PyProof.Rows L2
section
variable {X : Cx}
theorem PE.or {e : Expr} {t1 t2 : TE} (h1 : PE X e t1) (h2 : PE X e t2) : PE X e fun σ H Q => t1 σ H Q ∨ t2 σ H Q := ⟨fun pins s σ H Q I h => h.elim (h1.run pins s σ H Q I) (h2.run pins s σ H Q I)⟩
def fRev : D → Sto → Option D
  | .tup l, _ => some (.tup l.reverse)
  | d, S => (lstOf d S).map fun l => .lst l.reverse
variable {W : WX} {e : Expr} {ma : EM}
end
theorem rv_tup (l : List D) (S : Sto) : fRev (.tup l) S = some (.tup l.reverse) := rfl
theorem rv_lst (l : List D) (S : Sto) : fRev (.lst l) S = some (.lst l.reverse) := rfl
/-! ### methods of built-in things, by what is known of the type -/
section
variable {X : Cx} {W : WX}
/-! list.index: the first equal one -/
def posBy (p : PyData) : List PyData → Option Nat
  | [] => none
  | y :: ys => if PyData.eqv y p = true then some 0 else (posBy p ys).map (· + 1)
end
end Ag

namespace Ag
open PySem PySem.Spec PyProof.Rows L2
/-! ### x += e, x *= e of whole numbers -/
section
variable {X : Cx} {W : WX} {e : Expr} {me : EM} {pos pos' : Pos}
def sAug (f : D → D → Sto → Option D) (i : Nat) (me : EM) : SM := fun en S => match en[i]? with
  | some (some (.int a)) => eS (me en S) en fun d S1 => (match d with
    | .int b => (match f (.int a) (.int b) S1 with
      | some (.int c) => .next (en.set i (some (.int c))) S1
      | _ => .stuck)
    | _ => .stuck)
  | _ => .stuck
theorem aug_to {i : Nat} {ok : Int → Int → Prop} {g : Int → Int → Int} {f : D → D → Sto → Option D} (hf : ∀ a b c S, f (.int a) (.int b) S = some c → c = .int (g a b) ∧ ok a b) {E : Ends} {σ : L2.St} {H : Hp} (h : tS X.K W (sAug f i me) E σ H) :
    tAug i (tE X.K W me) (fun x y G Q => ∃ a b, x = V.int a ∧ y = V.int b ∧ ok a b ∧ Q (.int (g a b)) G) E σ H := by
  obtain ⟨en, S, m, er, si, h⟩ := h
  unfold sAug at h
  split at h
  · rename_i a q
    obtain ⟨v, h1, h2⟩ := er.at_ i _ q
    cases h2
    refine ⟨_, h1, en, S, m, er, si, (eS_to er h).mono ?_⟩
    rintro y G ⟨d, S1, m1, e1, s1, r1, h1⟩
    split at h1
    · rename_i b
      cases r1
      cases q2 : f (.int a) (.int b) S1 with
      | none => rw [q2] at h1; exact h1.elim
      | some c =>
        obtain ⟨rfl, k⟩ := hf _ _ _ _ q2
        rw [q2] at h1
        exact ⟨a, b, rfl, rfl, k, h1 _ m1 G .refl s1 ((er.to e1).set (.int _))⟩
    · exact h1.elim
  · exact h.elim
theorem s_augAdd {i : Nat} {x : Str} (hN : X.N.Nodup) (hi : X.N[i]? = some x) (hx : Loc X.env.scope x) (he : PE X e (tE X.K W me)) (hf : X.fn x = true ∨ X.env.scope.names.lookup x = some .local := by first | exact Or.inl rfl | exact Or.inr rfl) :
    PS X (.AugAssign (.Name x pos') .Add e pos) (tS X.K W (sAug fAdd i me)) :=
  PS.imp (ps_aug hN hi hx he ip_add hf) fun E σ H h => by
    obtain ⟨v, h1, h2⟩ := aug_to (ok := fun _ _ => True) (g := fun a b => a + b) (fun a b c S q => by cases q; exact ⟨rfl, trivial⟩) h
    exact ⟨v, h1, (fun w : tE X.K W me σ H _ => by
      obtain ⟨en, S, m, er, si, k⟩ := w
      exact ⟨en, S, m, er, si, k.mono fun y G ⟨a, b, p, q, _, z⟩ => ⟨a, b, p, q, z⟩⟩) h2⟩
theorem ip_mulW : PIp X .Mult (fun x y G Q => ∃ a b, x = V.int a ∧ y = V.int b ∧ mulOk a b = true ∧ Q (.int (a * b)) G) := by
  rintro pins s σ H x y v u Q I r1 r2 ⟨i, j, rfl, rfl, hl, q⟩
  obtain ⟨t, rfl⟩ := r1
  obtain ⟨t', rfl⟩ := r2
  have ok : IntMulOk i j := by
    unfold mulOk at hl
    simp only [Bool.or_eq_true, decide_eq_true_eq] at hl
    rcases hl with h | h | h
    · exact CMul.ok (.inl ⟨by omega, by omega⟩)
    · exact CMul.ok (.inr ⟨by omega, by omega⟩)
    · exact CMulW.ok h
  exact imul_int (h := ⟨.int _, H, I.tok _, ⟨_, rfl⟩, q⟩) ok
theorem s_augMul {i : Nat} {x : Str} (hN : X.N.Nodup) (hi : X.N[i]? = some x) (hx : Loc X.env.scope x) (he : PE X e (tE X.K W me)) (hf : X.fn x = true ∨ X.env.scope.names.lookup x = some .local := by first | exact Or.inl rfl | exact Or.inr rfl) :
    PS X (.AugAssign (.Name x pos') .Mult e pos) (tS X.K W (sAug fMul i me)) :=
  PS.imp (ps_aug hN hi hx he ip_mulW hf) fun E σ H h => aug_to (ok := fun a b => mulOk a b = true) (g := fun a b => a * b) (fun a b c S q => by
    by_cases hl : mulOk a b = true
    · simp only [fMul, hl, if_true] at q; cases q; exact ⟨rfl, hl⟩
    · simp only [fMul, hl, if_false] at q; cases q) h
end
theorem p_aug {f : D → D → Sto → Option D} {i : Nat} {me : EM} {en : En} {S : Sto} {N : En → Sto → Prop} {R : D → Sto → Prop} {a : Int} (h : slotD en i = some (.int a)) : (sAug f i me en S).sat N R ↔ (me en S).sat fun d S1 => osat (intD d) fun b => osat ((f (.int a) (.int b) S1).bind intD) fun c => N (en.set i (some (.int c))) S1 := by
  have e : en[i]? = some (some (.int a)) := by
    unfold slotD at h
    split at h
    · rename_i d q; cases h; exact q
    · cases h
  unfold sAug
  rw [e]
  simp only [p_eS]
  refine iff_of_eq (congrArg _ (funext fun d => funext fun S1 => propext ?_))
  cases d with
  | int b =>
    cases q : f (.int a) (.int b) S1 with
    | none => simp [intD, s_st, osat, q]
    | some c => cases c <;> simp [intD, s_st, s_nx, osat, q]
  | _ => simp [intD, s_st, osat]
/-! ### tuple(range(..)), list(range(..)) -/
section
variable {X : Cx} {W : WX} {e e2 : Expr} {ma mb : EM} {p p2 pos pos2 : Pos}
end
/-! ### comprehensions with two clauses -/
def lc2M (nxt : Nxt) (g : GM) (t : BM) (mi1 : IM) (vs1 : List Nat) (g1 : GM) (t1 : BM) (e : EM) (en : En) : Nat → Nat → List D → Sto → Res (List D)
  | 0, k, acc, S => match nxt k S with
    | some none => .ok acc S
    | _ => .stuck
  | f + 1, k, acc, S => match nxt k S with
    | none => .stuck
    | some none => .ok acc S
    | some (some d) => match g d en S with
      | .ok en1 S1 => (match t en1 S1 with
        | .ok b S2 => if b = true then (match mi1 en1 S2 with
            | .ok it1 S3 => (match lcM it1.nxt g1 t1 e (wipeE en1 vs1) it1.n 0 acc S3 with
              | .ok acc' S4 => lc2M nxt g t mi1 vs1 g1 t1 e en f (k + 1) acc' S4
              | _ => .stuck)
            | _ => .stuck) else lc2M nxt g t mi1 vs1 g1 t1 e en f (k + 1) acc S2
        | _ => .stuck)
      | _ => .stuck
def mLc2 (mi : IM) (vs : List Nat) (g : GM) (t : BM) (mi1 : IM) (vs1 : List Nat) (g1 : GM) (t1 : BM) (e : EM) : EM := fun en S => (mi en S).bind fun it S1 => match lc2M it.nxt g t mi1 vs1 g1 t1 e (wipeE en vs) it.n 0 [] S1 with
  | .ok l S2 => .ok (.lst l) S2
  | _ => .stuck
section
variable {X : Cx} {W : WX}
end
end Ag

namespace Ag
open PySem
section
variable {P : D → Sto → Prop} {PL : List D → Sto → Prop} {en : En} {S : Sto} {me : EM} {t t1 : BM} {gm g1 : GM} {mi mi1 : IM} {vs vs1 : List Nat}
theorem q_lc2 : (mLc2 mi vs gm t mi1 vs1 g1 t1 me en S).sat P ↔ (mi en S).sat fun it S1 => (lc2M it.nxt gm t mi1 vs1 g1 t1 me (wipeE en vs) it.n 0 [] S1).sat fun l S2 => P (.lst l) S2 := by
  unfold mLc2
  rw [r_bind]
  refine iff_of_eq (congrArg _ (funext fun it => funext fun S1 => ?_))
  cases lc2M it.nxt gm t mi1 vs1 g1 t1 me (wipeE en vs) it.n 0 [] S1 <;> simp only [r_ok, r_exc, r_stuck]
end
end Ag

namespace Ag
open PySem
/-! ### lists of indexes -/
def ixD (l : List Nat) : List D := l.map fun (k : Nat) => .int (k : Int)
theorem pys_ints : ∀ ns : List Int, D.pys (ns.map .int) = some (ns.map .int)
  | [] => rfl
  | n :: ns => by simp [D.pys, D.py, pys_ints ns]
theorem eqv_int (x y : Int) : PyData.eqv (.int x) (.int y) = decide (x = y) := by
  simp only [PyData.eqv]
  by_cases h : x = y <;> simp [h]
/-! ### sums above 0 -/
/-! ### the minds with a share above 0 -/
theorem zip_range (hs : List Str) (row : List Rat) (h : row.length = hs.length) : hs.zip row = (List.range hs.length).map fun j => (hs.getD j "", atR row j) := by
  apply List.ext_getElem?
  intro k
  by_cases hk : k < hs.length
  · have h1 : hs[k]? = some hs[k] := List.getElem?_eq_getElem hk
    have h2 : row[k]? = some (row[k]'(by omega)) := List.getElem?_eq_getElem (by omega)
    simp [List.getElem?_map, List.getElem?_range hk, List.getElem?_zip_eq_some, h1, h2, List.getD, atR, List.zip, List.getElem?_zipWith]
  · rw [List.getElem?_eq_none (by simp; omega), List.getElem?_eq_none (by simp; omega)]
end Ag

namespace Ag
open PySem
/-! ### all words -/
/-! ### thoughts compared -/
theorem eqv_frac (x y : Rat) : PyData.eqv (fracP x) (fracP y) = decide (x = y) := by
  simp only [fracP, PyData.eqv, PyData.eqvAll, Bool.and_true]
  by_cases h : x = y
  · subst h; simp
  · rw [decide_eq_false h]
    by_cases h1 : x.num = y.num
    · have h2 : ¬ ((x.den : Int) = (y.den : Int)) := fun z => h (Rat.ext h1 (by exact_mod_cast z))
      rw [h1]
      simp only [beq_self_eq_true, Bool.true_and]
      exact beq_eq_false_iff_ne.mpr h2
    · simp [h1]
theorem eqv_fracs : ∀ a b : List Rat, PyData.eqvAll (a.map fracP) (b.map fracP) = decide (a = b)
  | [], [] => by simp [PyData.eqvAll]
  | [], y :: b => by simp [PyData.eqvAll]
  | x :: a, [] => by simp [PyData.eqvAll]
  | x :: a, y :: b => by
    simp only [List.map_cons, PyData.eqvAll, eqv_frac, eqv_fracs a b, List.cons.injEq]
    by_cases h1 : x = y <;> by_cases h2 : a = b <;> simp [h1, h2]
theorem sh_fracs (a : List Rat) : SeqAt.shaped (.tuple (a.map fracP)) = true := by
  obtain ⟨p, h1, h2⟩ := pl_th a
  simp only [D.py, pys_frac, Option.map_some, Option.some.injEq] at h1
  rw [h1]; exact h2
theorem eq_th (a b : List Rat) (S : Sto) : fEq (.tup (a.map frac)) (.tup (b.map frac)) S = some (.bl (decide (a = b))) := by
  show eqD _ _ S = _
  simp only [eqD, pyS, D.py, pys_frac, Option.map_some, sh_fracs, and_self, if_true, PyData.eqv, eqv_fracs]
/-! ### words in tuples of words -/
def wordP (p : List Nat) : PyData := .tuple (p.map fun (k : Nat) => .int (k : Int))
theorem py_word (p : List Nat) : (wordD p).py = some (wordP p) := by
  have := pys_ints (p.map fun (k : Nat) => (k : Int))
  simp only [List.map_map] at this
  show (D.pys _).map PyData.tuple = _
  have e : (p.map fun (k : Nat) => D.int (k : Int)) = List.map (D.int ∘ fun (k : Nat) => (k : Int)) p := rfl
  rw [e, this]; rfl
theorem eqv_words : ∀ a b : List Nat, PyData.eqvAll (a.map fun (k : Nat) => .int (k : Int)) (b.map fun (k : Nat) => .int (k : Int)) = decide (a = b)
  | [], [] => by simp [PyData.eqvAll]
  | [], y :: b => by simp [PyData.eqvAll]
  | x :: a, [] => by simp [PyData.eqvAll]
  | x :: a, y :: b => by
    simp only [List.map_cons, PyData.eqvAll, eqv_int, eqv_words a b, List.cons.injEq]
    by_cases h1 : x = y
    · subst h1; simp
    · have : ¬ ((x : Int) = (y : Int)) := by omega
      simp [h1, this]
theorem eqv_word (a b : List Nat) : PyData.eqv (wordP a) (wordP b) = decide (a = b) := by
  simp only [wordP, PyData.eqv, eqv_words]
theorem dp_word (p : List Nat) : Dp 1 (wordD p) := dp_tup fun d hd => by
  obtain ⟨k, _, rfl⟩ := List.mem_map.mp hd
  exact dp_int _
theorem nr_bl (b : Bool) : Nr (.bl b) := fun _ => rfl
theorem nr_word (p : List Nat) : Nr (wordD p) := nr_tup (nr_map fun _ => nr_int _)
theorem rb_word {p : List Nat} (h : p.length ≤ 20) (hk : ∀ k ∈ p, k < 2 ^ 20) : Rb 1 600 (wordD p) := (rb_tup (k := 0) (B := 21) (n := 20) (fun d hd => by
  obtain ⟨k, hm, rfl⟩ := List.mem_map.mp hd
  exact rb_int (k := 20) (by decide) (by simpa using hk k hm) (by decide)) (by simpa using h)).up (by decide) (by decide)
/-! ### one statement at a time -/
@[irreducible] def Later (s : SM) (en : En) (S : Sto) (N : En → Sto → Prop) (R : D → Sto → Prop) : Prop := (s en S).sat N R
section
variable {s s1 s2 : SM} {en : En} {S : Sto} {N : En → Sto → Prop} {R : D → Sto → Prop}
theorem later_eq : Later s en S N R ↔ (s en S).sat N R := by unfold Later; exact Iff.rfl
theorem p_seqL : (sSeq s1 s2 en S).sat N R ↔ (s1 en S).sat (fun en S => Later s2 en S N R) R := by
  rw [p_seq]
  simp only [later_eq]
end
end Ag

namespace Ag
open PySem
/-! ### a well of draws: its third number counts, with b draws left -/
structure Wl (S : Sto) (i b : Nat) : Prop where
  cl : Cl S
  at_ : ∃ (x y : Int) (z : Nat), S[i]? = some (.lst [.int x, .int y, .int (z : Int)]) ∧ z + b ≤ 2 ^ 50
/-- what was there stands, but for the well; new cells may name new cells -/
structure Wx (S S' : Sto) (i b : Nat) : Prop where
  len : S.length ≤ S'.length
  at_ : ∃ (x y : Int) (z : Nat), S'[i]? = some (.lst [.int x, .int y, .int (z : Int)]) ∧ z + b ≤ 2 ^ 50
  old : ∀ o ∈ S'.take S.length, ∀ n, o.below n = true
  oth : ∀ j, j < S.length → j ≠ i → S'[j]? = S[j]?
structure Wk (S S' : Sto) (i b : Nat) : Prop where
  wl : Wl S' i b
  same : S'.length = S.length
  oth : ∀ j, j < S.length → j ≠ i → S'[j]? = S[j]?
theorem Wl.lt {S : Sto} {i b : Nat} (h : Wl S i b) : i < S.length := by
  obtain ⟨x, y, z, e, _⟩ := h.at_
  exact (List.getElem?_eq_some_iff.mp e).1
theorem Wl.mono {S : Sto} {i b b' : Nat} (h : Wl S i b) (hb : b' ≤ b) : Wl S i b' := by
  obtain ⟨x, y, z, e, k⟩ := h.at_
  exact ⟨h.cl, x, y, z, e, by omega⟩
theorem Wk.mono {S S' : Sto} {i b b' : Nat} (h : Wk S S' i b) (hb : b' ≤ b) : Wk S S' i b' := ⟨h.wl.mono hb, h.same, h.oth⟩
theorem Wx.mono {S S' : Sto} {i b b' : Nat} (h : Wx S S' i b) (hb : b' ≤ b) : Wx S S' i b' := by
  obtain ⟨x, y, z, e, k⟩ := h.at_
  exact ⟨h.len, ⟨x, y, z, e, by omega⟩, h.old, h.oth⟩
theorem Wk.refl {S : Sto} {i b : Nat} (h : Wl S i b) : Wk S S i b := ⟨h, rfl, fun _ _ _ => rfl⟩
theorem Wk.trans {S S1 S2 : Sto} {i b c : Nat} (h : Wk S S1 i b) (g : Wk S1 S2 i c) : Wk S S2 i c := ⟨g.wl, g.same.trans h.same, fun j hj hi => by rw [g.oth j (by rw [h.same]; exact hj) hi, h.oth j hj hi]⟩
theorem Wk.wx {S S' : Sto} {i b : Nat} (h : Wk S S' i b) : Wx S S' i b := ⟨Nat.le_of_eq h.same.symm, h.wl.at_, fun o ho => h.wl.cl o (List.mem_of_mem_take ho), h.oth⟩
theorem Wx.refl {S : Sto} {i b : Nat} (h : Wl S i b) : Wx S S i b := (Wk.refl h).wx
theorem Wx.cut {S S' : Sto} {i b : Nat} (h : Wx S S' i b) (hi : i < S.length) : Wk S (S'.take S.length) i b := by
  have hl : (S'.take S.length).length = S.length := by rw [List.length_take]; have := h.len; omega
  obtain ⟨x, y, z, e, k⟩ := h.at_
  refine ⟨⟨fun o ho => h.old o ho, x, y, z, by rw [List.getElem?_take_of_lt hi]; exact e, k⟩, hl, fun j hj hji => by rw [List.getElem?_take_of_lt hj]; exact h.oth j hj hji⟩
/-- the well, read within a store that has grown -/
structure Wg (S : Sto) (i b : Nat) : Prop where
  at_ : ∃ (x y : Int) (z : Nat), S[i]? = some (.lst [.int x, .int y, .int (z : Int)]) ∧ z + b ≤ 2 ^ 50
/-- only the well was written -/
structure Wo (S S' : Sto) (i b : Nat) : Prop where
  wg : Wg S' i b
  same : S'.length = S.length
  oth : ∀ j, j ≠ i → S'[j]? = S[j]?
theorem Wl.wg {S : Sto} {i b : Nat} (h : Wl S i b) : Wg S i b := ⟨h.at_⟩
theorem Wx.wg {S S' : Sto} {i b : Nat} (h : Wx S S' i b) : Wg S' i b := ⟨h.at_⟩
theorem Wo.wk {S S' : Sto} {i b c : Nat} (h : Wo S S' i b) (w : Wl S i c) : Wk S S' i b := by
  obtain ⟨x, y, z, e, k⟩ := h.wg.at_
  refine ⟨⟨fun o ho n => ?_, x, y, z, e, k⟩, h.same, fun j _ hi => h.oth j hi⟩
  obtain ⟨j, hj, rfl⟩ := List.mem_iff_getElem.mp ho
  have ej : S'[j]? = some S'[j] := List.getElem?_eq_getElem hj
  by_cases hji : j = i
  · subst hji
    rw [e] at ej
    have ej := Option.some.inj ej
    rw [← ej]
    exact bel_lst (fun d hd => by
      simp only [List.mem_cons, List.not_mem_nil, or_false] at hd
      rcases hd with rfl | rfl | rfl <;> exact nr_int _) n
  · rw [h.oth j hji] at ej
    exact w.cl _ (List.mem_of_getElem? ej) n
theorem Wo.trans {S S1 S2 : Sto} {i b c : Nat} (h : Wo S S1 i b) (g : Wo S1 S2 i c) : Wo S S2 i c := ⟨g.wg, g.same.trans h.same, fun j hi => by rw [g.oth j hi, h.oth j hi]⟩
theorem Wo.refl {S : Sto} {i b : Nat} (h : Wg S i b) : Wo S S i b := ⟨h, rfl, fun _ _ => rfl⟩
theorem Wg.mono {S : Sto} {i b b' : Nat} (h : Wg S i b) (hb : b' ≤ b) : Wg S i b' := by
  obtain ⟨x, y, z, e, k⟩ := h.at_
  exact ⟨x, y, z, e, by omega⟩
theorem Wo.mono {S S' : Sto} {i b b' : Nat} (h : Wo S S' i b) (hb : b' ≤ b) : Wo S S' i b' := ⟨h.wg.mono hb, h.same, h.oth⟩
/-- a cell of one's own is written -/
theorem Wx.put {S S' : Sto} {i b j : Nat} {o : Ob} (h : Wx S S' i b) (hj : S.length ≤ j) (hi : i < S.length) : Wx S (S'.set j o) i b := by
  obtain ⟨x, y, z, e, k⟩ := h.at_
  refine ⟨by simpa using h.len, ⟨x, y, z, by rw [List.getElem?_set_ne (by omega)]; exact e, k⟩, fun o' ho n => ?_, fun k hk hki => by rw [List.getElem?_set_ne (by omega)]; exact h.oth k hk hki⟩
  rw [List.take_set_of_le hj] at ho
  exact h.old o' ho n
theorem Wx.add {S S' : Sto} {i b : Nat} {o : Ob} (h : Wx S S' i b) : Wx S (S' ++ [o]) i b := by
  obtain ⟨x, y, z, e, k⟩ := h.at_
  have hi := (List.getElem?_eq_some_iff.mp e).1
  refine ⟨by simp; have := h.len; omega, ⟨x, y, z, by rw [List.getElem?_append_left hi]; exact e, k⟩, fun o' ho n => ?_, fun k hk hki => by rw [List.getElem?_append_left (by have := h.len; omega)]; exact h.oth k hk hki⟩
  rw [List.take_append_of_le_length h.len] at ho
  exact h.old o' ho n
theorem Wx.get {S S1 S2 : Sto} {i b : Nat} {j : Nat} {o : Ob} (g : Wo S1 S2 i b) (hj : j ≠ i) (h : S1[j]? = some o) : S2[j]? = some o := by rw [g.oth j hj]; exact h
end Ag

namespace Ag
open PySem
/-! ### what is left -/
theorem sum_le {n : Nat} {f g : Nat → Rat} (h : ∀ k, k < n → f k ≤ g k) : sumTo n f ≤ sumTo n g := by
  induction n with
  | zero => simp only [sumTo]; exact Rat.le_refl
  | succ n ih =>
    have a := ih fun k hk => h k (by omega)
    have b := h n (by omega)
    simp only [sumTo]
    grind
/-! ### the greatest of all pairs, the first of these -/
/-! ### of shares -/
end Ag

namespace Ag
open PySem PySem.Spec PyProof.Rows L2
/-! ### a method's call by keywords -/
section
variable {X : Cx} {W : WX} {e o : Expr} {pos p apos : Pos} {mr : AM} {k n j : Nat} {f : Addr} {fd : FuncData} {ps : List Str} {fm : List D → Sto → Res D} {ma : EM} {c : Str}
end
section
variable {mo : EM} {mr : AM} {en : List (Option D)} {S : Sto} {P : D → Sto → Prop}
end
end Ag

namespace Ag
open PySem
/-! ### least, greatest, spread -/
/-! ### what days do to a spread -/
section
variable {n : Nat} {ws : List (List (List Int))} {p : List Nat} {ts : List Rat}
/-! ### all rows of 0 and 1 -/
end
end Ag

namespace Ag
open PySem PySem.Spec PyProof.Rows L2
/-! ### xs * n as a cell -/
section
variable {X : Cx} {W : WX} {a b : Expr} {pos : Pos} {ma mb : EM}
end
end Ag

namespace Ag
open PySem PySem.Spec PyProof.Rows L2
/-! ### dicts as cells -/
section
variable {K : PySem.W.Frag} {m : Mp} {H : Hp}
theorem optK_ok {f : D → Option NestedKey} {b : Nat} (hf : ∀ (d : D) (v : V) (k : NestedKey), Rep K m H v d → f d = some k → KeyH K H k v ∧ numK k = true ∧ k.depth ≤ b) : ∀ {vs : List V} {l : List D} {ks : List NestedKey}, Reps K m H vs l → optK f l = some ks → KeyHs K H ks vs ∧ numKs ks = true ∧ NestedKey.depthAll ks ≤ b
  | [], [], ks, _, q => by
    simp only [optK, Option.some.injEq] at q
    subst q
    exact ⟨.nil, rfl, Nat.zero_le _⟩
  | [], _ :: _, _, h, _ => by cases h
  | _ :: _, [], _, h, _ => by cases h
  | v :: vs, d :: l, ks, h, q => by
    cases h with
    | cons h1 h2 =>
      obtain ⟨k, q1, q2⟩ := Option.bind_eq_some_iff.mp (show ((f d).bind fun k => (optK f l).map (k :: ·)) = some ks from q)
      obtain ⟨ks', q3, rfl⟩ := Option.map_eq_some_iff.mp q2
      obtain ⟨a1, a2, a3⟩ := hf d v k h1 q1
      obtain ⟨b1, b2, b3⟩ := optK_ok hf h2 q3
      exact ⟨.cons a1 b1, by simp only [numKs, a2, b2, Bool.and_self], by simp only [NestedKey.depthAll]; omega⟩
theorem keyF_ok : ∀ (f : Nat) (d : D) (v : V) (k : NestedKey), Rep K m H v d → keyF f d = some k → KeyH K H k v ∧ numK k = true ∧ k.depth ≤ f
  | f, .int i, v, k, h, q => by
    have q : some (NestedKey.num i) = some k := by cases f <;> exact q
    cases q
    cases h
    exact ⟨.num i, rfl, Nat.zero_le _⟩
  | f + 1, .tup l, v, k, h, q => by
    obtain ⟨ks, q1, rfl⟩ := Option.map_eq_some_iff.mp (show (optK (keyF f) l).map .tup = some k from q)
    cases h with
    | tup h1 _ h2 =>
      obtain ⟨a, b, c⟩ := optK_ok (fun d v k h q => keyF_ok f d v k h q) h2 q1
      exact ⟨.tup h1 a, b, by simp only [NestedKey.depth]; omega⟩
  | 0, .tup l, v, k, h, q => by simp [keyF] at q
  | 0, .non, v, k, h, q | _ + 1, .non, v, k, h, q => by simp [keyF] at q
  | 0, .bl _, v, k, h, q | _ + 1, .bl _, v, k, h, q => by simp [keyF] at q
  | 0, .str _, v, k, h, q | _ + 1, .str _, v, k, h, q => by simp [keyF] at q
  | 0, .ty _, v, k, h, q | _ + 1, .ty _, v, k, h, q => by simp [keyF] at q
  | 0, .gl _, v, k, h, q | _ + 1, .gl _, v, k, h, q => by simp [keyF] at q
  | 0, .lst _, v, k, h, q | _ + 1, .lst _, v, k, h, q => by simp [keyF] at q
  | 0, .scr _, v, k, h, q | _ + 1, .scr _, v, k, h, q => by simp [keyF] at q
  | 0, .ref _, v, k, h, q | _ + 1, .ref _, v, k, h, q => by simp [keyF] at q
  | 0, .obj _ _ _, v, k, h, q | _ + 1, .obj _ _ _, v, k, h, q => by simp [keyF] at q
  | 0, .dct _, v, k, h, q | _ + 1, .dct _, v, k, h, q => by simp [keyF] at q
theorem DicR.key : ∀ {l : List D} {xs : List (NestedKey × Addr × Value)}, DicR K m H l xs → ∀ x ∈ xs, KeyH K H x.1 (.ref x.2.1) ∧ numK x.1 = true ∧ x.1.depth ≤ 8
  | [], _, h, x, hx => by cases h; cases hx
  | [_], _, h, x, hx => by cases h
  | kd :: vd :: l, _, h, x, hx => by
    cases h with
    | cons a b c d r =>
      rcases List.mem_cons.mp hx with e | hx
      · rw [e]
        obtain ⟨a1, a2, a3⟩ := keyF_ok 4 _ _ _ b a
        exact ⟨a1, a2, Nat.le_trans a3 (by decide)⟩
      · exact DicR.key r x hx
/-- the value at a key -/
def lookK (k : NestedKey) : List D → Option D
  | kd :: vd :: l => if keyD kd = some k then some vd else lookK k l
  | _ => none
theorem DicR.look (k : NestedKey) : ∀ {l : List D} {xs : List (NestedKey × Addr × Value)}, DicR K m H l xs → (lookK k l = none ∧ atKey xs k = none) ∨ ∃ d p v, lookK k l = some d ∧ atKey xs k = some p ∧ RelV v p.2 ∧ Rep K m H v d
  | [], _, h => by cases h; exact .inl ⟨rfl, rfl⟩
  | [_], _, h => by cases h
  | kd :: vd :: l, _, h => by
    cases h with
    | @cons _ _ k' b u v _ xs a b' c d r =>
      simp only [lookK]
      by_cases e : k' = k
      · subst e
        rw [if_pos a]
        exact .inr ⟨vd, (b, u), v, rfl, by simp [atKey], c, d⟩
      · have ne : ¬ keyD kd = some k := fun z => e (by rw [a] at z; exact Option.some.inj z)
        rw [if_neg ne]
        have e2 : atKey ((k', b, u) :: xs) k = atKey xs k := by simp [atKey, e]
        rw [e2]
        exact DicR.look k r
theorem look_some {l : List D} {xs : List (NestedKey × Addr × Value)} (h : DicR K m H l xs) (k : NestedKey) : (atKey xs k).isSome = (lookK k l).isSome := by
  rcases h.look k with ⟨a, b⟩ | ⟨d, p, v, a, b, _⟩ <;> rw [a, b] <;> rfl
theorem DicR.len : ∀ {l : List D} {xs : List (NestedKey × Addr × Value)}, DicR K m H l xs → l.length / 2 = xs.length
  | [], _, h => by cases h; rfl
  | [_], _, h => by cases h
  | kd :: vd :: l, _, h => by
    cases h with
    | cons a b c d r =>
      have := DicR.len r
      simp only [List.length_cons]
      omega
end
section
variable {X : Cx}
/-- d[k] = v -/
def putK (k : NestedKey) (v : D) : List D → List D
  | kd :: vd :: l => kd :: (if keyD kd = some k then v else vd) :: putK k v l
  | l => l
def storeK (l : List D) (k : NestedKey) (d v : D) : List D := if (lookK k l).isSome = true then putK k v l else l ++ [d, v]
theorem DicR.app {K : PySem.W.Frag} {m : Mp} {H : Hp} : ∀ {l l' : List D} {xs xs' : List (NestedKey × Addr × Value)}, DicR K m H l xs → DicR K m H l' xs' → DicR K m H (l ++ l') (xs ++ xs')
  | [], _, _, _, h, g => by cases h; exact g
  | [_], _, _, _, h, _ => by cases h
  | kd :: vd :: l, _, _, _, h, g => by
    cases h with
    | cons a b c d r => exact .cons a b c d (DicR.app r g)
theorem DicR.put {K : PySem.W.Frag} {m : Mp} {H : Hp} {k : NestedKey} {u : Value} {v : V} {vd : D} (ru : RelV v u) (rv : Rep K m H v vd) : ∀ {l : List D} {xs : List (NestedKey × Addr × Value)}, DicR K m H l xs → DicR K m H (putK k vd l) (xs.map (putAt k u))
  | [], _, h => by cases h; exact .nil
  | [_], _, h => by cases h
  | kd :: vd' :: l, _, h => by
    cases h with
    | @cons _ _ k' b u' v' _ xs a b' c d r =>
      simp only [List.map_cons, putAt, putK]
      by_cases e : k' = k
      · subst e
        rw [if_pos a, if_pos rfl]
        exact .cons a b' ru rv (DicR.put ru rv r)
      · have ne : ¬ keyD kd = some k := fun z => e (by rw [a] at z; exact Option.some.inj z)
        rw [if_neg ne, if_neg e]
        exact .cons a b' c d (DicR.put ru rv r)
theorem DicR.store {K : PySem.W.Frag} {m : Mp} {H : Hp} {l : List D} {xs : List (NestedKey × Addr × Value)} {k : NestedKey} {b : Addr} {u : Value} {v : V} {d vd : D} (h : DicR K m H l xs) (hk : keyD d = some k) (rb : Rep K m H (.ref b) d) (ru : RelV v u) (rv : Rep K m H v vd) : DicR K m H (storeK l k d vd) (storedH xs k b u) := by
  unfold storeK storedH
  rw [look_some h k]
  split
  · exact h.put ru rv
  · exact h.app (.cons hk rb ru rv .nil)
end
end Ag

namespace Ag
open PySem PySem.Spec PyProof.Rows L2
/-! ### d.items(), d a dict that stays -/
end Ag

/-! min and max of two values that are alike; max of a list of ints -/
namespace Ag
open PySem L2
open PySem.W (AlikeAll dataLt alike iter_tupleW cmpIn_gt cmpIn_lt moved_old reads_keeps)
section
variable {prog : Program} {w : World} {A : Around} {E : Value → Shared → Prop} {s : Shared} {a b : Value} {p q : PyData} {as bs : List Addr} {Q : Value → Shared → Prop}
end
section
variable {X : Cx}
/-- max of a list of ints -/
def gMaxL (d : D) (S : Sto) : Option D := match (rdOf d S).bind isInts with
  | some (n :: ns) => some (.int (ns.foldl max n))
  | _ => none
theorem fold_max : ∀ (ns : List Int) (n : Int), ns.foldl max n ∈ n :: ns ∧ ∀ y ∈ n :: ns, y ≤ ns.foldl max n
  | [], n => by simp
  | k :: ns, n => by
    obtain ⟨h1, h2⟩ := fold_max ns (max n k)
    rw [List.foldl_cons]
    refine ⟨?_, fun y hy => ?_⟩
    · rcases List.mem_cons.mp h1 with e | e
      · rw [e]
        rcases Int.le_total n k with c | c
        · rw [Int.max_eq_right c]; simp
        · rw [Int.max_eq_left c]; simp
      · simp [e]
    · have h3 := h2 (max n k) (by simp)
      rcases List.mem_cons.mp hy with rfl | hy
      · exact Int.le_trans (Int.le_max_left _ _) h3
      · rcases List.mem_cons.mp hy with rfl | hy
        · exact Int.le_trans (Int.le_max_right _ _) h3
        · exact h2 y (by simp [hy])
theorem b_maxL (hc : X.calm = true) : CallR X (.builtin "max") (rOL X.K (f1 gMaxL)) := c1 fun pins s σ H x u Q d S m r I rx si hx hf hq => by
  unfold gMaxL at hf
  cases q : rdOf d S with
  | none => rw [q] at hf; cases hf
  | some l =>
    rw [q] at hf
    cases q2 : isInts l with
    | none => simp only [Option.bind_some, q2] at hf; cases hf
    | some ns =>
      simp only [Option.bind_some, q2] at hf
      cases ns with
      | nil => cases hf
      | cons n ns =>
        cases hf
        obtain ⟨a, vs, rfl, h1, h2⟩ := rd_at si hx q
        have e := ints_of h2 q2
        subst e
        obtain ⟨f1, f2⟩ := fold_max ns n
        refine cr_max hc pins s σ H _ _ Q I rx ⟨a, n :: ns, rfl, h1, by simp, fun k k1 k2 => ?_⟩
        have : k = ns.foldl max n := Int.le_antisymm (f2 k k1) (k2 _ f1)
        rw [this]
        exact hq _ H .refl si (.int _)
end
end Ag

/-! list(d.values()) -/
namespace Ag
open PySem PySem.Spec PyProof.Rows L2
end Ag

/-! lots that hear apart, in plain Lean -/
namespace Ag
open PySem
open PySem.W (dataLt alike alikeAll keyToks keyToksAll)
/-- who is heard by some of a lot -/
def earsR (n : Nat) (w : List (List Int)) (A : List Nat) : List Nat := (List.range n).filter fun i => A.any fun m => decide (0 < (w.getD m []).getD i 0)
def meetR (A B : List Nat) : Bool := A.any fun m => decide (m ∈ B)
abbrev Pr := List Nat × List Nat
def lotLt (A B : List Nat) : Bool := dataLt (wordP A) (wordP B)
def joinR (A B : List Nat) : Pr := (if lotLt B A = true then B else A, if lotLt A B = true then B else A)
theorem alike_ints : ∀ A B : List Nat, alikeAll (A.map fun (k : Nat) => PyData.int (k : Int)) (B.map fun (k : Nat) => PyData.int (k : Int)) = true
  | [], [] => rfl
  | [], b :: B => rfl
  | a :: A, [] => rfl
  | a :: A, b :: B => by simp only [List.map_cons, alikeAll, alike, Bool.true_and]; exact alike_ints A B
theorem meet_comm (A B : List Nat) : meetR A B = meetR B A := by
  have : ∀ A B : List Nat, meetR A B = true → meetR B A = true := fun A B h => by
    obtain ⟨m, h1, h2⟩ := List.any_eq_true.mp h
    exact List.any_eq_true.mpr ⟨m, of_decide_eq_true h2, decide_eq_true h1⟩
  cases q : meetR A B with
  | true => rw [this A B q]
  | false =>
    cases p : meetR B A with
    | false => rfl
    | true => rw [this B A p] at q; cases q
section
variable (n : Nat) (ws : List (List (List Int)))
/-- the steps from a pair -/
def stepR (P : Pr) : List (Nat × Pr) := ((List.range ws.length).filter fun a => !meetR (earsR n (ws.getD a []) P.1) (earsR n (ws.getD a []) P.2)).map fun a => (a, joinR (earsR n (ws.getD a []) P.1) (earsR n (ws.getD a []) P.2))
/-- lots that stay apart through the ways p -/
def Apt (A B : List Nat) : List Nat → Prop
  | [] => meetR A B = false
  | a :: p => meetR A B = false ∧ Apt (earsR n (ws.getD a []) A) (earsR n (ws.getD a []) B) p
/-- there is a row of k steps -/
def Rn : Nat → Pr → Prop
  | 0, _ => True
  | k + 1, P => ∃ a Q, (a, Q) ∈ stepR n ws P ∧ Rn k Q
def startR (n : Nat) : List Pr := (List.range n).flatMap fun j => (List.range j).map fun i => ([i], [j])
/-- two minds are apart after some word of d days -/
def Ap (d : Nat) : Prop := ∃ i j p, i < n ∧ j < n ∧ i ≠ j ∧ p.length = d ∧ (∀ k ∈ p, k < ws.length) ∧ Apt n ws [i] [j] p
inductive Rc : Pr → Prop
  | start {P : Pr} : P ∈ startR n → Rc P
  | step {P Q : Pr} {a : Nat} : Rc P → (a, Q) ∈ stepR n ws P → Rc Q
end
structure Lot (n : Nat) (A : List Nat) : Prop where
  ne : A ≠ []
  lt : ∀ m ∈ A, m < n
  sub : ∃ f : Nat → Bool, A = (List.range n).filter f
structure Pok (n : Nat) (P : Pr) : Prop where
  one : Lot n P.1
  two : Lot n P.2
  ap : meetR P.1 P.2 = false
section
variable {n : Nat} {ws : List (List (List Int))}
theorem Apt.symm : ∀ {p A B : List Nat}, Apt n ws A B p → Apt n ws B A p
  | [], A, B, h => by
    show meetR B A = false
    rw [meet_comm]; exact h
  | a :: p, A, B, h => by
    refine ⟨?_, h.2.symm⟩
    rw [meet_comm]; exact h.1
theorem Apt.head : ∀ {p A B : List Nat}, Apt n ws A B p → meetR A B = false
  | [], _, _, h => h
  | _ :: _, _, _, h => h.1
end
/-! pigeons -/
theorem nodup_len {α : Type} [DecidableEq α] : ∀ {l m : List α}, l.Nodup → (∀ x ∈ l, x ∈ m) → l.length ≤ m.length
  | [], _, _, _ => Nat.zero_le _
  | x :: l, m, h, s => by
    obtain ⟨h1, h2⟩ := List.nodup_cons.mp h
    have hx := s x (by simp)
    have := nodup_len (m := m.erase x) h2 fun y hy => (List.mem_erase_of_ne (by intro e; rw [← e] at h1; exact h1 hy)).mpr (s y (by simp [hy]))
    have e := List.length_erase_of_mem hx
    have p := List.length_pos_of_mem hx
    rw [List.length_cons]
    omega
/-! what the two searches give -/
structure Stp (n : Nat) (ws : List (List (List Int))) (ps : List Pr) : Prop where
  nd : ps.Nodup
  rc : ∀ P ∈ ps, Rc n ws P
  st : ∀ P ∈ startR n, P ∈ ps
  cl : ∀ P ∈ ps, ∀ a Q, (a, Q) ∈ stepR n ws P → Q ∈ ps
structure Lng (n : Nat) (ws : List (List (List Int))) (ps : List Pr) (fs : List (Pr × Nat)) : Prop where
  nd : (fs.map (·.1)).Nodup
  sub : ∀ q ∈ fs, q.1 ∈ ps
  at_ : ∀ q ∈ fs, Rn n ws q.2 q.1 ∧ ¬ Rn n ws (q.2 + 1) q.1
  bd : ∀ q ∈ fs, q.2 < fs.length
/-- the days needed -/
structure Days (n : Nat) (ws : List (List (List Int))) (r : Option Nat) : Prop where
  non : r = none → ∀ d, Ap n ws d
  som : ∀ D, r = some D → ¬ Ap n ws D ∧ (D = 0 ∨ Ap n ws (D - 1))
  le : ∀ D, r = some D → D ≤ 5000
end Ag

/-! dicts of pairs of lots, as plain data -/
namespace Ag
open PySem
theorem bls_map {α : Type} (f : α → Bool) : ∀ l : List α, isBls (l.map fun x => .bl (f x)) = some (l.map f)
  | [] => rfl
  | x :: l => by simp [isBls, bls_map f l]
theorem any_map {α : Type} (f : α → Bool) (l : List α) (S : Sto) : gAny (.lst (l.map fun x => .bl (f x))) S = some (.bl (l.any f)) := by
  have e : gAny (.lst (l.map fun x => .bl (f x))) S = ((rdOf (.lst (l.map fun x => .bl (f x))) S).bind isBls).map fun bs => .bl (bs.any id) := rfl
  rw [e]
  simp [rdOf, lstOf, bls_map]
theorem all_map {α : Type} (f : α → Bool) (l : List α) (S : Sto) : gAll (.lst (l.map fun x => .bl (f x))) S = some (.bl (l.all f)) := by
  have e : gAll (.lst (l.map fun x => .bl (f x))) S = ((rdOf (.lst (l.map fun x => .bl (f x))) S).bind isBls).map fun bs => .bl (bs.all id) := rfl
  rw [e]
  simp [rdOf, lstOf, bls_map]
/-! keys -/
/-! the entries -/
section
variable {c : D} {S : Sto} {xs : List (Pr × D)}
end
end Ag
namespace Ag
open PySem
end Ag

/-! set(x): what is walked is put into a new set -/
namespace Ag
open PySem PySem.Spec PyProof.Rows L2
/-- an empty set, as the World says -/
def set0 (w : World) : Obj := { cls := .type "set", dict := none, data := .set #[] 0 (.fresh 0 0 (!w.params.followText "set-order")) }
section
variable {P : Program} {w : World} {A : Around} {E : Value → Shared → Prop} {s : Shared}
set_option maxHeartbeats 6400000 in
theorem set_from {T : String} {l : Addr} {od : Option Addr} {da : Data} {sl : Array (Option Value)} {it : Obj} {Fin : Heap → Prop} {Q : Value → Shared → Prop} (ho : s.heap.get? l = some { cls := .type T, dict := od, data := da, slots := sl })
    (n1 : isSubtype (.type T) (.type "set") = pure false) (n2 : isSubtype (.type T) (.type "frozenset") = pure false) (n3 : (Value.type T == Value.type "dict") = false)
    (begins : ∀ (A' : Around) (E' : Value → Shared → Prop) (s' : Shared) (Q' : Value → Shared → Prop), s'.heap.get? l = some { cls := .type T, dict := od, data := da, slots := sl } → Q' (.ref s'.heap.objs.size) { s' with heap := s'.heap.push it } → wpAny (model P w) A' (pyIter (.ref l)) Q' E' s')
    (loop : ∀ R : Result → Shared → Prop, (∀ g tk, Fin g → (∀ b o, s.heap.get? b = some o → g.get? b = some o) → R (.ok (.ret .none)) { s with heap := g, toks := tk }) → codeAny (model P w) A.in1.in1 (.builtin "set.update.loop" ⟨[.ref s.heap.objs.size, .ref (s.heap.push (set0 w)).objs.size], []⟩) R { s with heap := (s.heap.push (set0 w)).push it })
    (fin : ∀ g tk, Fin g → (∀ b o, s.heap.get? b = some o → g.get? b = some o) → Q (.ref s.heap.objs.size) { s with heap := g, toks := tk }) : wpAny (model P w) A (call (.type "set") [.ref l]) Q E s := by
  obtain ⟨c, tl, mro⟩ := F.called_set.mro
  have made := F.called_set.made
  have sub := F.called_set.sub
  have nt := F.called_set.notType
  have cc := F.called_set.canCreate
  have ct := F.typeCall_set_1 (.ref l)
  refine wpAny_call (codeAny_of_tree (show wpAny _ _ (callAny (.type "set") _) _ _ _ from wpAny_pure ⟨Code.quiet_builtin _ (by decide +kernel), codeAny_builtin F.entry_type_call ?_⟩))
  rw [Around.under_plain (weight_type_call_type "set" [.ref l] []) rfl]
  repeat (any_goals (first | assumption | wp_step))
  refine codeAny_mono (code_set_led1 (.ref l) (E := E) (Q₁ := fun u t => u = .ref s.heap.objs.size ∧ t = { s with heap := s.heap.push (set0 w) }) ⟨rfl, rfl⟩) ?_
  intro r t hr
  cases r with
  | error e => exact hr
  | ok fl =>
  cases fl with
  | ret u =>
    obtain ⟨rfl, rfl⟩ := hr
    have hS : (s.heap.push (set0 w)).get? s.heap.objs.size = some (set0 w) := Heap.get?_push_size _ rfl
    have ty : Shared.TypeIs { s with heap := s.heap.push (set0 w) } (.ref s.heap.objs.size) "set" := ⟨_, hS, rfl⟩
    have hi1 := F.called_set.init.lookup
    have hi2 := F.called_set.init.bind (.ref s.heap.objs.size)
    repeat (any_goals (first | assumption | wp_step))
    refine codeAny_mono (codeAny_call_builtin (R := wants (fun r t => r = .none ∧ ∃ g tk, t = { s with heap := g, toks := tk } ∧ Fin g ∧ ∀ b o, s.heap.get? b = some o → g.get? b = some o) E) F.called_set.init.plain F.entry_set_init (check_set_init_1 ty ?_)) ?_
    · have ho' : (s.heap.push (set0 w)).get? l = some { cls := .type T, dict := od, data := da, slots := sl } := Heap.get?_push_of_some _ ho
      unfold Builtin.«set.__init__» noKeywords Builtin.Frozenset.updateFrom
      generalize hp : pyIter = pI
      wp_walk
      subst hp
      refine begins _ _ { s with heap := s.heap.push (set0 w) } _ ho' (wpAny_bind (wpAny_runValue (loop _ ?_)))
      intro g tk hg kp
      exact (show wpAny _ _ _ _ _ _ from wpAny_pure (wpAny_pure ⟨rfl, g, tk, rfl, hg, kp⟩))
    · intro r2 t2 hr2
      cases r2 with
      | error e => exact hr2
      | ok fl =>
      cases fl with
      | ret v =>
        obtain ⟨rfl, g, tk, rfl, hg, kp⟩ := hr2
        repeat (any_goals (first | assumption | wp_step))
        exact fin g tk hg kp
      | _ => exact hr2.elim
  | _ => exact hr.elim
end
end Ag

/-! sorted(set(x)), len(set(x)) of ints -/
namespace Ag
open PySem PySem.Spec PyProof.Rows L2
section
variable {P : Program} {w : World} {A : Around} {E : Value → Shared → Prop} {s : Shared}
end
/-! ints in rising order, each once -/
section
variable {X : Cx} {W : WX} {e : Expr} {me : EM} {p1 pos1 p2 pos2 : Pos}
end
/-! facts for the mathematics -/
end Ag

/-! len(set(x)) of truth values -/
namespace Ag
open PySem PySem.Spec PyProof.Rows L2 PpSet
section
variable {P : Program} {w : World} {A : Around}
end
section
variable {P : Program} {w : World} {A : Around} {E : Value → Shared → Prop} {s : Shared}
end
section
variable {X : Cx} {W : WX} {e : Expr} {me : EM} {p1 pos1 p2 pos2 : Pos}
end
/-- list(x) as a cell -/
def sqOf (d : D) (S : Sto) : Option (List D) := match d with
  | .tup l => some l
  | d => rdOf d S
def mLstC1 (ma : EM) : EM := fun en S => (ma en S).bind fun d S1 => match sqOf d S1 with
  | some l => .ok (.ref S1.length) (S1 ++ [.lst l])
  | none => .stuck
section
variable {X : Cx} {W : WX} {e : Expr} {ma : EM} {p pos : Pos}
theorem e_lstC1 (hg : Gl X "list") (hm : X.mg "list" = none) (ha : PE X e (tE X.K W ma)) (na : starEach [e] X.env = (false, eval e X.env) :: starEach [] X.env := by rfl) : PE X (.Call (.Name "list" p) [e] [] pos) (tE X.K W (mLstC1 ma)) := by
  refine PE.imp (pe_callTy call_list_of hg hm boot_list (pa_cons ha pa_nil na) (he := na)) ?_
  rintro σ H Q ⟨en, S, m, er, si, h⟩
  refine ⟨en, S, m, er, si, (PostG.bind (R := Rep X.K) h).mono ?_⟩
  rintro v H1 ⟨d, S1, m1, e1, s1, r1, h1⟩
  have key : ∀ vs ds, Reps X.K m1 H1 vs ds → sqOf d S1 = some ds → ∀ q, H1 q = none → Q (.ref q) (upd H1 q (.lst vs)) := fun vs ds g2 qd q hq => by
    rw [qd] at h1
    exact h1 _ (m1.add q) _ (.cell hq) (s1.grow hq ⟨_, upd_same, g2.to (.cell hq)⟩) (.ref (s1.last q))
  by_cases ht : ∃ l, d = .tup l
  · obtain ⟨l, rfl⟩ := ht
    cases r1 with
    | tup g1 hd g2 => exact ⟨_, _, rfl, .inr g1, key _ _ g2 rfl⟩
  · have e : sqOf d S1 = rdOf d S1 := by
      cases d with
      | tup l => exact absurd ⟨l, rfl⟩ ht
      | _ => rfl
    cases q : rdOf d S1 with
    | none => rw [e, q] at h1; exact h1.elim
    | some l =>
      obtain ⟨a, vs, rfl, g1, g2⟩ := rd_at s1 r1 q
      exact ⟨a, vs, rfl, .inl g1, key _ _ g2 (e.trans q)⟩
end
theorem q_lstC1 {ma : EM} {en : En} {S : Sto} {P : D → Sto → Prop} : (mLstC1 ma en S).sat P ↔ (ma en S).sat fun d S1 => osat (sqOf d S1) fun l => P (.ref S1.length) (S1 ++ [.lst l]) := by
  unfold mLstC1
  rw [r_bind]
  refine iff_of_eq (congrArg _ (funext fun d => funext fun S1 => ?_))
  cases sqOf d S1 <;> simp [osat, r_ok, r_stuck]
theorem seq_tup (l : List D) (S : Sto) : sqOf (.tup l) S = some l := rfl
/-- max of a list or tuple of ints -/
def gMaxS (d : D) (S : Sto) : Option D := match (sqOf d S).bind isInts with
  | some (n :: ns) => some (.int (ns.foldl max n))
  | _ => none
section
open PySem.W (AlikeAll alike max_tuple_data maxD_ints)
variable {X : Cx}
theorem reads_ints {h : Heap} : ∀ {ns : List Int} {us : List Value}, Vals (ns.map V.int) us → ∃ as, ReadsAll h us (ns.map PyData.int) as
  | [], _, r => by cases r; exact ⟨_, .nil⟩
  | n :: ns, _, r => by
    cases r with
    | cons h1 h2 =>
      obtain ⟨t, rfl⟩ := h1
      obtain ⟨as, k⟩ := reads_ints h2
      exact ⟨_, .cons (.int n t) k⟩
theorem depth_ints : ∀ ns : List Int, PyData.depthAll (ns.map PyData.int) ≤ 1
  | [] => by simp [PyData.depthAll]
  | n :: ns => by
    have := depth_ints ns
    simp only [List.map_cons, PyData.depthAll, PyData.depth]
    omega
theorem b_maxS (hc : X.calm = true) (hu : X.A.units + 65 < cLine) : CallR X (.builtin "max") (rOL X.K (f1 gMaxS)) := c1 fun pins s σ H x u Q d S m r I rx si hx hf hq => by
  unfold gMaxS at hf
  by_cases ht : ∃ l, d = .tup l
  · obtain ⟨l, rfl⟩ := ht
    simp only [sqOf, Option.bind_some] at hf
    cases q2 : isInts l with
    | none => rw [q2] at hf; cases hf
    | some ns =>
      rw [q2] at hf
      cases ns with
      | nil => cases hf
      | cons n ns =>
        cases hf
        cases hx with
        | tup g1 hd g2 =>
          obtain rfl := ints_of g2 q2
          obtain ⟨its, rv, pl, _⟩ := I.tuple g1
          obtain ⟨as, rd⟩ := reads_ints (h := s.heap) rv
          rw [Vals.ref1 rx]
          have dp := depth_ints (n :: ns)
          refine max_tuple_data (I.ok.hd hc) pl rd ⟨fun x hx y hy => ?_, fun x hx => ?_⟩ (by simp only [List.map_cons] at dp; omega) fun i v h' tk bs hv rr kp => ?_
          · obtain ⟨a, _, rfl⟩ := List.mem_map.mp (show x ∈ (n :: ns).map PyData.int from hx)
            obtain ⟨b, _, rfl⟩ := List.mem_map.mp (show y ∈ (n :: ns).map PyData.int from hy)
            rfl
          · obtain ⟨a, _, rfl⟩ := List.mem_map.mp (show x ∈ (n :: ns).map PyData.int from hx)
            intro z; cases z
          · rw [maxD_ints] at rr
            cases rr with
            | int _ t => exact ⟨.int _, H, I.kept kp, ⟨_, rfl⟩, hq _ H .refl si (.int _)⟩
  · have e : gMaxL d S = some r := by
      have e : sqOf d S = rdOf d S := by
        cases d with
        | tup l => exact absurd ⟨l, rfl⟩ ht
        | _ => rfl
      unfold gMaxL
      rw [← e]
      exact hf
    exact b_maxL hc pins s σ H _ _ Q I rx ⟨_, S, m, r, si, .cons hx .nil, e, hq⟩
end
theorem maxS_tup (n : Int) (ns : List Int) (S : Sto) : gMaxS (.tup ((n :: ns).map .int)) S = some (.int (ns.foldl max n)) := by
  have e : (sqOf (.tup ((n :: ns).map .int)) S).bind isInts = some (n :: ns) := by
    show isInts ((n :: ns).map .int) = _
    exact ints_map _
  simp only [gMaxS, e]
end Ag

/-! len(set(x)), x a tuple of tuples of ints -/
namespace Ag
open PySem PySem.Spec PyProof.Rows L2
section
variable {P : Program} {w : World} {A : Around} {E : Value → Shared → Prop} {s : Shared}
end
section
variable {X : Cx} {W : WX} {e : Expr} {me : EM} {p1 pos1 p2 pos2 : Pos} {K : PySem.W.Frag} {m : Mp} {H : Hp}
end
end Ag

/-! {k: v}; d.get(k, v) -/
namespace Ag
open PySem PySem.Spec PyProof.Rows L2
section
variable {X : Cx} {k v : Expr} {tk tv : TE} {pos : Pos}
section
variable {name : Str} {id : String} {o e : Expr} {es : List Expr} {apos cpos : Pos}
end
end
end Ag

/-! sorted(t), t a tuple -/
namespace Ag
open PySem PySem.Spec PyProof.Rows L2
section
variable {prog : Program} {w : World} {A : Around} {E : Value → Shared → Prop} {s : Shared}
open PySem.W (SortsAt sortingHeap copyHeap copyHeap_at sortVals list_sort_vals)
end
section
open PySem.W (SortsAt EachIs AllAlike Sortable dataLe dataLe_str sortVals_data sortVals_length sorting_copy_old sortVals sorted_data each_map)
variable {X : Cx}
end
end Ag

namespace Ag
open PySem L2
/-! ### str(x) of an own class with __str__ -/
section
variable {X : Cx} {W : WX} {j : Nat}
/-! ### operators that run a def -/
end
section
variable {M : Model} {A : Around} {E : Value → Shared → Prop} {s : Shared} {K : PySem.W.Frag} {x C : Addr} {ox : Obj} {od : Option Obj}
end
section
variable {prog : Program} {w : World} {A : Around} {E : Value → Shared → Prop} {s : Shared} {K : PySem.W.Frag} {x y C f : Addr} {ox oy : Obj} {od od' : Option Obj}
end
section
variable {X : Cx} {W : WX} {j : Nat}
end
section
variable {X : Cx} {W : WX} {j k n : Nat} {f : Addr} {fd : FuncData} {ps : List Str} {fm : List D → Sto → Res D}
end
section
variable {en : En} {S : Sto} {P : D → Sto → Prop} {ma mb : EM} {mr : AM}
end
end Ag

namespace Ag
open PySem
open TL (tl joinL numL)
/-! ### the text of a council -/
section
variable {n : Nat} {r : List Int} {w : List (List Int)} {hs : List Str} {ws : List (List (List Int))}
/-- names that are whole words -/
structure Wd (hs : List Str) : Prop where
  ne : hs ≠ []
  six : hs.length ≤ 6
  len : ∀ h ∈ hs, h.length ≤ 8
  fr : ∀ h ∈ hs, 32 ∉ tl h ∧ 10 ∉ tl h
end
end Ag

namespace Ag
open PySem L2
/-! ### bool(x) of an own class with __bool__ -/
section
variable {prog : Program} {w : World} {A : Around} {E : Value → Shared → Prop} {s : Shared} {K : PySem.W.Frag} {x C L f : Addr} {h₀ : Heap} {m : Str → Option Value} {ox : Obj} {od : Option Obj}
end
section
variable {X : Cx} {W : WX} {j : Nat}
end
/-! ### making by keywords -/
section
variable {X : Cx} {W : WX} {pos p : Pos} {mr : AM} {k n j : Nat} {f : Addr} {fd : FuncData} {ps : List Str} {fm : List D → Sto → Res D} {c : Str}
/-! ### a class method by keywords -/
end
section
variable {en : En} {S : Sto} {P : D → Sto → Prop} {mr : AM} {c : Str} {n : Nat} {ix : List Nat} {fm : List D → Sto → Res D}
end
/-! ### texts in a repr -/
end Ag

namespace Ag
open PySem L2
/-! ### a thing that this law's runs never come to -/
section
variable {X : Cx} {W : WX}
end
end Ag

namespace Ag
open PySem
/-! ### ways whose weights have no bound -/
structure RowP (n : Nat) (r : List Int) : Prop where
  len : r.length = n
  nn : ∀ w ∈ r, 0 ≤ w
  pos : 0 < r.sum
structure WayP (n : Nat) (w : List (List Int)) : Prop where
  len : w.length = n
  row : ∀ r ∈ w, RowP n r
theorem RowOk.p {n : Nat} {r : List Int} (h : RowOk n r) : RowP n r := ⟨h.len, fun w hw => (h.in_ w hw).1, h.pos⟩
theorem WayOk.p {n : Nat} {w : List (List Int)} (h : WayOk n w) : WayP n w := ⟨h.len, fun r hr => (h.row r hr).p⟩
section
variable {n : Nat} {ws : List (List (List Int))}
end
end Ag

namespace Ag
open PySem PySem.Spec PyProof.Rows L2
/-! ### bits of ints -/
section
variable {X : Cx}
end
/-! ### for k in d, d a dict that stays -/
/-! ### list(d) -/
end Ag

namespace Ag
open PySem PySem.Spec PyProof.Rows L2
/-! ### sorted(l), l a list of alike data -/
open PySem.W (SortsAt EachIs AllAlike Sortable dataLe sorted_data alike)
def pyOf (S : Sto) (d : D) : PyData := (pyS d S).getD .none
def isTup1 : PyData → Bool
  | .tuple (_ :: _) => true
  | _ => false
def notTN : PyData → Bool
  | .none => false
  | .tuple _ => false
  | _ => true
def sortOk (l : List D) (S : Sto) : Bool := (l.all fun d => (pyS d S).isSome) && (l.all fun d => l.all fun e => alike (pyOf S d) (pyOf S e)) && ((l.all fun d => isTup1 (pyOf S d)) || (l.all fun d => notTN (pyOf S d))) && (l.all fun d => decide ((pyOf S d).depth ≤ 60)) && decide (l.length ≤ lineN)
def gSortD (d : D) (S : Sto) : Option D := (rdOf d S).bind fun l => if sortOk l S = true then some (.lst (l.mergeSort (dataLe false (pyOf S)))) else none
section
variable {X : Cx} {m : Mp} {H : Hp}
end
end Ag

namespace Ag
open PySem PySem.Spec PyProof.Rows L2 PpSet
/-! ### how many different things there are in a list -/
section
variable {α : Type} [DecidableEq α]
def addN (acc : List α) (x : α) : List α := if x ∈ acc then acc else acc ++ [x]
def distN (l : List α) : List α := l.foldl addN []
theorem dist_snoc (l : List α) (x : α) : distN (l ++ [x]) = addN (distN l) x := by simp [distN, List.foldl_append]
theorem mem_dist {z : α} : ∀ {l : List α}, z ∈ distN l ↔ z ∈ l := by
  have key : ∀ (l acc : List α), z ∈ l.foldl addN acc ↔ z ∈ acc ∨ z ∈ l := by
    intro l
    induction l with
    | nil => simp
    | cons x l ih =>
      intro acc
      rw [List.foldl_cons, ih]
      unfold addN
      split
      · rename_i h
        constructor
        · rintro (h1 | h1) <;> simp [h1]
        · rintro (h1 | h1)
          · exact .inl h1
          · rcases List.mem_cons.mp h1 with rfl | h1
            · exact .inl h
            · exact .inr h1
      · simp only [List.mem_append, List.mem_cons, List.not_mem_nil, or_false, or_assoc]
  intro l
  unfold distN
  rw [key]
  simp
theorem dist_nd : ∀ l : List α, (distN l).Nodup := by
  have key : ∀ (l acc : List α), acc.Nodup → (l.foldl addN acc).Nodup := by
    intro l
    induction l with
    | nil => intro acc h; exact h
    | cons x l ih =>
      intro acc h
      rw [List.foldl_cons]
      refine ih _ ?_
      unfold addN
      split
      · exact h
      · rename_i hx
        rw [List.nodup_append]
        refine ⟨h, by simp, fun a ha b hb e => ?_⟩
        have : b = x := by simpa using hb
        subst this e
        exact hx ha
  exact fun l => key l [] List.nodup_nil
def manyN (l : List α) : Nat := (distN l).length
theorem many_snoc (l : List α) (x : α) : manyN (l ++ [x]) = if x ∈ l then manyN l else manyN l + 1 := by
  unfold manyN
  rw [dist_snoc]
  unfold addN
  by_cases h : x ∈ l
  · rw [if_pos (mem_dist.mpr h), if_pos h]
  · rw [if_neg (fun z => h (mem_dist.mp z)), if_neg h, List.length_append]; rfl
theorem many_le (l : List α) : manyN l ≤ l.length := by
  have h := nodup_len (dist_nd l) (m := l) fun x hx => mem_dist.mp hx
  exact h
end
/-! ### sets of texts -/
section
variable {P : Program} {w : World} {A : Around} {E : Value → Shared → Prop} {s : Shared}
end
section
variable {X : Cx} {W : WX} {e : Expr} {me : EM} {p1 pos1 p2 pos2 : Pos}
end
/-! ### d == {}, two dicts of which one is empty -/
section
variable {P : Program} {w : World} {A : Around} {E : Value → Shared → Prop} {s : Shared}
end
end Ag

namespace Ag
open PySem
/-! ### sets of minds as bits -/
/-! ### what is reached after t days -/
section
variable (n : Nat) (ws : List (List (List Int)))
def earsAll (r : List Nat) (A : List Nat) : List Nat := r.foldl (fun X a => earsR n (ws.getD a []) X) A
/-- a walk of steps -/
inductive Wlk : Pr → List Nat → Pr → Prop
  | nil {P : Pr} : Wlk P [] P
  | cons {P Q R : Pr} {a : Nat} {r : List Nat} : (a, Q) ∈ stepR n ws P → Wlk Q r R → Wlk P (a :: r) R
end
section
variable {n : Nat} {ws : List (List (List Int))}
/-! ### the pairs, each once -/
/-! ### rings -/
/-- a ring of steps, and its pair -/
structure Ring (n : Nat) (ws : List (List (List Int))) (r : List Nat) (P : Pr) : Prop where
  ne : r ≠ []
  few : r.length ≤ 5000
  ok : Pok n P
  wlk : Wlk n ws P r P
/-- lots that the ways r lead to themselves -/
structure Kpt (n : Nat) (ws : List (List (List Int))) (r : List Nat) (A B : List Nat) : Prop where
  ne : r ≠ []
  few : r.length ≤ 10000
  lt : ∀ a ∈ r, a < ws.length
  one : Lot n A
  two : Lot n B
  ap : meetR A B = false
  ea : earsAll n ws r A = A
  eb : earsAll n ws r B = B
end
/-! ### dicts of pairs of numbers -/
section
variable {j : Nat} {S : Sto} {xs : List (Nat × Nat)}
end
end Ag

namespace Ag
open PySem
/-! ### plain data of one kind: compared, sought, sorted -/
structure Cod {α : Type} [DecidableEq α] (e : α → D) (f : α → PyData) (k : Nat) : Prop where
  py : ∀ a, (e a).py = some (f a)
  eqv : ∀ a b, PyData.eqv (f a) (f b) = decide (a = b)
  dp : ∀ a, Dp k (e a)
  ns : ∀ a, (e a).isS = false
theorem eq_ns {x y : D} (h : x.isS = false) (S : Sto) : fEq x y S = eqD x y S := by
  cases x <;> first | rfl | cases h
theorem nq_ns {x y : D} (h : x.isS = false) (S : Sto) : fNe x y S = neD x y S := by
  cases x <;> first | rfl | cases h
theorem sh_of {d : D} {p : PyData} {k : Nat} (h : Dp k d) (hk : k ≤ 64) (e : d.py = some p) : SeqAt.shaped p = true := by
  obtain ⟨q, h1, h2⟩ := h.pl hk
  rw [e] at h1; cases h1; exact h2
theorem in_ns {x y : D} {p : PyData} {qs : List PyData} {S : Sto} (h : x.isS = false) (e1 : pyS x S = some p) (e2 : pyS y S = some (.list qs) ∨ pyS y S = some (.tuple qs)) (s1 : SeqAt.shaped p = true) (s2 : SeqAt.shaped (.list qs) = true) (s3 : SeqAt.shaped (.tuple qs) = true) : inD x y S = some (qs.any fun z => PyData.eqv z p) := by
  have e : inD x y S = (match pyS x S, pyS y S with
      | some p, some (.tuple qs) => if SeqAt.shaped p = true ∧ SeqAt.shaped (.tuple qs) = true then some (qs.any fun z => PyData.eqv z p) else none
      | some p, some (.list qs) => if SeqAt.shaped p = true ∧ SeqAt.shaped (.list qs) = true then some (qs.any fun z => PyData.eqv z p) else none
      | _, _ => none) := by
    cases x <;> first | rfl | cases h
  rw [e, e1]
  rcases e2 with e2 | e2 <;> rw [e2] <;> simp only [s1, s2, s3, and_self, if_true]
section
variable {α : Type} [DecidableEq α] {e : α → D} {f : α → PyData} {k : Nat}
theorem Cod.pys (c : Cod e f k) : ∀ l : List α, D.pys (l.map e) = some (l.map f)
  | [] => rfl
  | a :: l => by simp only [List.map_cons, D.pys, c.py, c.pys l]
theorem Cod.sh (c : Cod e f k) (hk : k ≤ 64) (a : α) : SeqAt.shaped (f a) = true := sh_of (c.dp a) hk (c.py a)
theorem Cod.eq (c : Cod e f k) (hk : k ≤ 64) (a b : α) (S : Sto) : fEq (e a) (e b) S = some (.bl (decide (a = b))) := by
  rw [eq_ns (c.ns a)]
  simp only [eqD, pyS_py (c.py a), pyS_py (c.py b), c.sh hk, and_self, if_true, c.eqv]
theorem Cod.ne (c : Cod e f k) (hk : k ≤ 64) (a b : α) (S : Sto) : fNe (e a) (e b) S = some (.bl (!decide (a = b))) := by
  rw [nq_ns (c.ns a)]
  simp only [neD, pyS_py (c.py a), pyS_py (c.py b), c.sh hk, and_self, if_true, c.eqv]
theorem Cod.eqvs (c : Cod e f k) : ∀ a b : List α, PyData.eqvAll (a.map f) (b.map f) = decide (a = b)
  | [], [] => rfl
  | [], _ :: _ => rfl
  | _ :: _, [] => rfl
  | x :: a, y :: b => by
    simp only [List.map_cons, PyData.eqvAll, c.eqv, c.eqvs a b, List.cons.injEq, Bool.decide_and]
theorem Cod.lst (c : Cod e f k) : Cod (fun l : List α => .lst (l.map e)) (fun l => .list (l.map f)) (k + 1) where
  py := fun l => by show (D.pys _).map PyData.list = _; rw [c.pys]; rfl
  eqv := fun a b => by simp only [PyData.eqv, c.eqvs]
  dp := fun l => dp_lst fun d hd => by obtain ⟨a, _, rfl⟩ := List.mem_map.mp hd; exact c.dp a
  ns := fun _ => rfl
theorem Cod.tup (c : Cod e f k) : Cod (fun l : List α => .tup (l.map e)) (fun l => .tuple (l.map f)) (k + 1) where
  py := fun l => by show (D.pys _).map PyData.tuple = _; rw [c.pys]; rfl
  eqv := fun a b => by simp only [PyData.eqv, c.eqvs]
  dp := fun l => dp_tup fun d hd => by obtain ⟨a, _, rfl⟩ := List.mem_map.mp hd; exact c.dp a
  ns := fun _ => rfl
theorem Cod.any (c : Cod e f k) (a : α) (l : List α) : ((l.map f).any fun z => PyData.eqv z (f a)) = decide (a ∈ l) := by
  rw [List.any_map]
  have : ((fun z => PyData.eqv z (f a)) ∘ f) = fun z => decide (z = a) := funext fun z => c.eqv z a
  rw [this, Bool.eq_iff_iff, List.any_eq_true, decide_eq_true_eq]
  simp
theorem Cod.inD (c : Cod e f k) (hk : k < 64) (a : α) (l : List α) {y : D} {S : Sto} (hy : pyS y S = some (.list (l.map f)) ∨ pyS y S = some (.tuple (l.map f))) : inD (e a) y S = some (decide (a ∈ l)) := by
  rw [in_ns (c.ns a) (pyS_py (c.py a)) hy (c.sh (by omega) a) (c.lst.sh (by omega) l) (c.tup.sh (by omega) l), c.any]
theorem Cod.ref (c : Cod e f k) {j : Nat} {l : List α} {S : Sto} (h : S[j]? = some (.lst (l.map e))) : pyS (.ref j) S = some (.list (l.map f)) := by
  simp only [pyS, h, c.pys, Option.map_some]
theorem Cod.inl (c : Cod e f k) (hk : k < 64) (a : α) (l : List α) (S : Sto) : fIn (e a) (.lst (l.map e)) S = some (.bl (decide (a ∈ l))) := by
  unfold fIn
  rw [c.inD hk a l (.inl (pyS_py (c.lst.py l)))]; rfl
theorem Cod.int (c : Cod e f k) (hk : k < 64) (a : α) (l : List α) (S : Sto) : fIn (e a) (.tup (l.map e)) S = some (.bl (decide (a ∈ l))) := by
  unfold fIn
  rw [c.inD hk a l (.inr (pyS_py (c.tup.py l)))]; rfl
theorem Cod.pos (c : Cod e f k) {a : α} : ∀ {l : List α} {j : Nat}, l[j]? = some a → (∀ m, m < j → l[m]? ≠ some a) → posBy (f a) (l.map f) = some j
  | [], j, h, _ => by simp at h
  | b :: l, 0, h, _ => by
    have : b = a := by simpa using h
    subst this
    simp only [List.map_cons, posBy, c.eqv, decide_true, if_true]
  | b :: l, j + 1, h, hn => by
    have h0 : b ≠ a := fun z => hn 0 (by omega) (by rw [z]; rfl)
    simp only [List.map_cons, posBy, c.eqv, decide_eq_false h0, Bool.false_eq_true, if_false]
    rw [c.pos (l := l) (j := j) (by simpa using h) (fun m hm => by simpa using hn (m + 1) (by omega))]
    rfl
open PySem.W (dataLe alike) in
theorem Cod.sortG (c : Cod e f k) (hk : k ≤ 60) (al : ∀ a b, alike (f a) (f b) = true) (tu : (∀ a, isTup1 (f a) = true) ∨ ∀ a, notTN (f a) = true) {l : List α} (hl : l.length ≤ lineN) (S : Sto) : f1 gSortD [.lst (l.map e)] S = some (.lst ((l.mergeSort (dataLe false f)).map e)) := by
  have po : ∀ a, pyOf S (e a) = f a := fun a => by unfold pyOf; rw [pyS_py (c.py a)]; rfl
  have ok : sortOk (l.map e) S = true := by
    simp only [sortOk, Bool.and_eq_true, Bool.or_eq_true, List.all_eq_true, decide_eq_true_eq]
    refine ⟨⟨⟨⟨fun d hd => ?_, fun d hd d' hd' => ?_⟩, ?_⟩, fun d hd => ?_⟩, by rw [List.length_map]; exact hl⟩
    · obtain ⟨a, _, rfl⟩ := List.mem_map.mp hd
      rw [pyS_py (c.py a)]; rfl
    · obtain ⟨a, _, rfl⟩ := List.mem_map.mp hd
      obtain ⟨b, _, rfl⟩ := List.mem_map.mp hd'
      rw [po, po]; exact al a b
    · rcases tu with tu | tu
      · exact .inl fun d hd => by
          obtain ⟨a, _, rfl⟩ := List.mem_map.mp hd
          rw [po]; exact tu a
      · exact .inr fun d hd => by
          obtain ⟨a, _, rfl⟩ := List.mem_map.mp hd
          rw [po]; exact tu a
    · obtain ⟨a, _, rfl⟩ := List.mem_map.mp hd
      rw [po]
      obtain ⟨p, h1, _, h3⟩ := c.dp a
      rw [c.py] at h1; cases h1
      omega
  have e0 : f1 gSortD [.lst (l.map e)] S = gSortD (.lst (l.map e)) S := rfl
  have e1 : rdOf (.lst (l.map e)) S = some (l.map e) := rfl
  rw [e0, gSortD, e1, Option.bind_some, if_pos ok]
  congr 2
  refine (List.map_mergeSort fun a _ b _ => ?_).symm
  show dataLe false f a b = dataLe false (pyOf S) (e a) (e b)
  simp only [dataLe, PySem.W.sortLe, po]
open PySem.W (dataLe alike) in
theorem Cod.sort (c : Cod e f k) (hk : k ≤ 60) (al : ∀ a b, alike (f a) (f b) = true) (tu : ∀ a, isTup1 (f a) = true) {l : List α} (hl : l.length ≤ lineN) (S : Sto) : f1 gSortD [.lst (l.map e)] S = some (.lst ((l.mergeSort (dataLe false f)).map e)) := c.sortG hk al (.inl tu) hl S
open PySem.W (dataLe alike) in
theorem Cod.sortN (c : Cod e f k) (hk : k ≤ 60) (al : ∀ a b, alike (f a) (f b) = true) (tu : ∀ a, notTN (f a) = true) {l : List α} (hl : l.length ≤ lineN) (S : Sto) : f1 gSortD [.lst (l.map e)] S = some (.lst ((l.mergeSort (dataLe false f)).map e)) := c.sortG hk al (.inr tu) hl S
end
theorem cod_word : Cod wordD wordP 1 := ⟨py_word, eqv_word, dp_word, fun _ => rfl⟩
def pairP (P : Pr) : PyData := .tuple [wordP P.1, wordP P.2]
open PySem.W (alike alikeAll) in
theorem pair_alike (P Q : Pr) : alike (pairP P) (pairP Q) = true := by
  have h : ∀ A B : List Nat, alike (wordP A) (wordP B) = true := fun A B => (show alike (wordP A) (wordP B) = alikeAll _ _ from rfl).trans (alike_ints A B)
  simp only [pairP, alike, alikeAll, h, Bool.and_self]
end Ag

namespace Ag
open PySem
/-! ### lots in any order -/
open PySem.W (dataLe)
end Ag

namespace Ag
open PySem PySem.Spec PyProof.Rows L2
/-! ### a sum of two lists as a cell -/
section
variable {X : Cx} {W : WX}
end
end Ag

namespace Ag
open PySem PySem.Spec PyProof.Rows L2
/-! ### an empty dict as a value: its repr, its class -/
section
variable {X : Cx} {W : WX} {j : Nat}
end
end Ag

namespace Ag
open PySem PySem.Spec PyProof.Rows L2
open PySem.SeqAt PySem.MeetsSeq AutoSeq1
/-! ### a text beside a dict: never the same -/
section
variable {A : Around} {s : Shared} {d : Addr} {o : Obj} {es : Array DictEntry} {ep : Nat}
end
/-! ### an empty dict sought among texts; a list beside [] -/
section
variable {X : Cx}
end
end Ag

namespace Ag
open PySem PySem.Spec PyProof.Rows L2
open PySem.SeqAt PySem.MeetsSeq AutoSeq1
/-! ### an instance of an own class beside a value of a built-in one -/
section
variable {C dx : Addr}
end
section
variable {prog : Program} {w : World} {A : Around} {E : Value → Shared → Prop} {s : Shared} {K : PySem.W.Frag} {y C f : Addr} {oy : Obj} {od : Option Obj} {u : Value} {T id : String}
end
/-- the class stands beside the built-in ones -/
structure Unl (K : PySem.W.Frag) (C : Addr) : Prop where
  fore : ∀ T ∈ kindsT, PySem.W.subIn K (.type T) (.ref C) = some false
  aft : ∀ T ∈ kindsT, PySem.W.mroIn K C (.type T) = some false
def kd : D → Sto → Bool
  | .non, _ | .bl _, _ | .int _, _ | .str _, _ | .tup _, _ | .lst _, _ | .dct _, _ => true
  | .ref i, S => match S[i]? with
    | some (.dic _) => true
    | _ => false
  | _, _ => false
/-- a value of a built-in kind, which declines -/
structure Dec (prog : Program) (w : World) (s : Shared) (y : Addr) (u : Value) (T : String) : Prop where
  mem : T ∈ kindsT
  ty : s.TypeIs u T
  look : PySem.W.Looks (model prog w) s.heap (typeOf u) (.type T)
  eq : ∃ id, Slot T (cmpInfo .Eq).2.1 id ∧ ∀ (A : Around) (E Q : Value → Shared → Prop), Q .notImplemented s → wpAny (model prog w) A (call (.builtin id) [u, .ref y]) Q E s
  ne : ∃ id, Slot T (cmpInfo .NotEq).2.1 id ∧ ∀ (A : Around) (E Q : Value → Shared → Prop), Q .notImplemented s → wpAny (model prog w) A (call (.builtin id) [u, .ref y]) Q E s
section
variable {X : Cx} {pins : List (Addr × Obj)} {σ : L2.St} {H : Hp} {s : Shared} {m : Mp} {v : V} {u : Value} {d : D} {y C dx : Addr}
end
section
variable {X : Cx} {W : WX} {j : Nat}
variable {k : Nat} {c : Str} {f : Addr} {fd : FuncData} {ps : List Str} {fm : List D → Sto → Res D}
end
section
variable {X : Cx} {W : WX} {j : Nat}
end
end Ag

/-! dicts whose keys are ints and texts -/
namespace Ag
open PySem PySem.Spec PyProof.Rows L2
/-- what stands at a key -/
def valD (l : List (Key × D)) (k : Key) : Option D := (l.find? fun p => decide (p.1 = k)).map (·.2)
def putD (l : List (Key × D)) (k : Key) (v : D) : List (Key × D) := if (l.any fun p => decide (p.1 = k)) = true then l.map (fun p => if p.1 = k then (p.1, v) else p) else l ++ [(k, v)]
section
variable {K : PySem.W.Frag} {m : Mp} {H : Hp} {S : Sto} {v : V} {d : D} {k : Key}
def KvR (K : PySem.W.Frag) (m : Mp) (H : Hp) (kvs : List (Key × V)) (l : List (Key × D)) : Prop := kvs.map (·.1) = l.map (·.1) ∧ Reps K m H (kvs.map (·.2)) (l.map (·.2))
theorem KvR.cons {p : Key × V} {q : Key × D} {kvs : List (Key × V)} {l : List (Key × D)} : KvR K m H (p :: kvs) (q :: l) ↔ p.1 = q.1 ∧ Rep K m H p.2 q.2 ∧ KvR K m H kvs l := by
  constructor
  · rintro ⟨h1, h2⟩
    simp only [List.map_cons, List.cons.injEq] at h1
    cases h2 with
    | cons a b => exact ⟨h1.1, a, h1.2, b⟩
  · rintro ⟨h1, h2, h3, h4⟩
    exact ⟨by simp only [List.map_cons, h1, h3], .cons h2 h4⟩
theorem KvR.nil_iff {l : List (Key × D)} (h : KvR K m H [] l) : l = [] := by
  cases l with
  | nil => rfl
  | cons a l => cases h.1
theorem KvR.look : ∀ {kvs : List (Key × V)} {l : List (Key × D)}, KvR K m H kvs l → (valD l k = none ∧ valV kvs k = none) ∨ ∃ d v, valD l k = some d ∧ valV kvs k = some v ∧ Rep K m H v d
  | [], _, h => by cases h.nil_iff; exact .inl ⟨rfl, rfl⟩
  | p :: kvs, [], h => by cases h.1
  | p :: kvs, q :: l, h => by
    obtain ⟨h1, h2, h3⟩ := KvR.cons.mp h
    by_cases e : q.1 = k
    · exact .inr ⟨q.2, p.2, by simp [valD, List.find?_cons, e], by simp [valV, List.find?_cons, h1, e], h2⟩
    · have a : valD (q :: l) k = valD l k := by simp [valD, List.find?_cons, e]
      have b : valV (p :: kvs) k = valV kvs k := valV_neg (by rw [h1]; exact e)
      rw [a, b]
      exact KvR.look h3
theorem KvR.some_eq {kvs : List (Key × V)} {l : List (Key × D)} (h : KvR K m H kvs l) : (valV kvs k).isSome = (valD l k).isSome := by
  rcases h.look (k := k) with ⟨a, b⟩ | ⟨d, v, a, b, _⟩ <;> rw [a, b] <;> rfl
theorem KvR.len {kvs : List (Key × V)} {l : List (Key × D)} (h : KvR K m H kvs l) : kvs.length = l.length := by
  have := congrArg List.length h.1
  simpa using this
theorem KvR.app : ∀ {kvs kvs' : List (Key × V)} {l l' : List (Key × D)}, KvR K m H kvs l → KvR K m H kvs' l' → KvR K m H (kvs ++ kvs') (l ++ l')
  | [], _, _, _, h, g => by cases h.nil_iff; exact g
  | p :: kvs, _, [], _, h, _ => by cases h.1
  | p :: kvs, _, q :: l, _, h, g => by
    obtain ⟨h1, h2, h3⟩ := KvR.cons.mp h
    exact KvR.cons.mpr ⟨h1, h2, KvR.app h3 g⟩
theorem KvR.mapP (rv : Rep K m H v d) : ∀ {kvs : List (Key × V)} {l : List (Key × D)}, KvR K m H kvs l → KvR K m H (kvs.map fun p => if p.1 = k then (p.1, v) else p) (l.map fun p => if p.1 = k then (p.1, d) else p)
  | [], _, h => by cases h.nil_iff; exact ⟨rfl, .nil⟩
  | p :: kvs, [], h => by cases h.1
  | p :: kvs, q :: l, h => by
    obtain ⟨h1, h2, h3⟩ := KvR.cons.mp h
    rw [List.map_cons, List.map_cons]
    refine KvR.cons.mpr ⟨?_, ?_, KvR.mapP rv h3⟩
    · by_cases e : q.1 = k
      · rw [if_pos (by rw [h1]; exact e), if_pos e]; exact h1
      · rw [if_neg (by rw [h1]; exact e), if_neg e]; exact h1
    · by_cases e : q.1 = k
      · rw [if_pos (by rw [h1]; exact e), if_pos e]; exact rv
      · rw [if_neg (by rw [h1]; exact e), if_neg e]; exact h2
theorem valD_any (k : Key) (l : List (Key × D)) : (l.any fun p => decide (p.1 = k)) = (valD l k).isSome := by
  unfold valD
  rw [Option.isSome_map]
  induction l with
  | nil => rfl
  | cons p l ih => by_cases e : p.1 = k <;> simp_all
theorem KvR.put {kvs : List (Key × V)} {l : List (Key × D)} (h : KvR K m H kvs l) (rv : Rep K m H v d) : KvR K m H (L2.putK kvs k v) (putD l k d) := by
  unfold L2.putK putD
  rw [valV_any, valD_any, h.some_eq]
  split
  · exact h.mapP rv
  · exact h.app (KvR.cons.mpr ⟨rfl, rv, rfl, .nil⟩)
theorem KvR.ext {m' : Mp} {H' : Hp} (e : Tr m H m' H') {kvs : List (Key × V)} {l : List (Key × D)} (h : KvR K m H kvs l) : KvR K m' H' kvs l := ⟨h.1, h.2.tr e⟩
end
section
variable {X : Cx}
end
/-! at a cell -/
/-! dict(list of pairs) -/
section
variable {X : Cx} {W : WX} {e : Expr} {ma : EM} {p pos : Pos}
end
end Ag

/-! errors of an own class raised and caught; list(text), min of a tuple, texts by order -/
namespace Ag
open PySem PySem.Spec PyProof.Rows L2
section
variable {X : Cx} {W : WX}
/-! ### small built-ins -/
/-- min of a tuple of ints -/
def gMinTup (d : D) (S : Sto) : Option D := match d with
  | .tup l => (match isInts l with
    | some (n :: ns) => some (.int (ns.foldl min n))
    | _ => none)
  | _ => none
open PySem.W (AlikeAll alike min_tuple_data minD_ints) in
theorem b_minTup (hc : X.calm = true) (hu : X.A.units + 65 < cLine) : CallR X (.builtin "min") (rOL X.K (f1 gMinTup)) := c1 fun pins s σ H x u Q d S m r I rx si hx hf hq => by
  unfold gMinTup at hf
  split at hf
  · rename_i l
    split at hf
    · rename_i n ns q2
      cases hf
      cases hx with
      | tup g1 hd g2 =>
        obtain rfl := ints_of g2 q2
        obtain ⟨its, rv, pl, _⟩ := I.tuple g1
        obtain ⟨as, rd⟩ := reads_ints (h := s.heap) rv
        rw [Vals.ref1 rx]
        have dp := depth_ints (n :: ns)
        refine min_tuple_data (I.ok.hd hc) pl rd ⟨fun x hx y hy => ?_, fun x hx => ?_⟩ (by simp only [List.map_cons] at dp; omega) fun i v h' tk bs hv rr kp => ?_
        · obtain ⟨a, _, rfl⟩ := List.mem_map.mp (show x ∈ (n :: ns).map PyData.int from hx)
          obtain ⟨b, _, rfl⟩ := List.mem_map.mp (show y ∈ (n :: ns).map PyData.int from hy)
          rfl
        · obtain ⟨a, _, rfl⟩ := List.mem_map.mp (show x ∈ (n :: ns).map PyData.int from hx)
          intro z; cases z
        · rw [minD_ints] at rr
          cases rr with
          | int _ t => exact ⟨.int _, H, I.kept kp, ⟨_, rfl⟩, hq _ H .refl si (.int _)⟩
    · cases hf
  · cases hf
end
/-! ### raise C(x), C's own __init__ keeping x as f -/
/-- what the layer asks of such a class C with the field f -/
structure ErC (K : PySem.W.Frag) (c f : Str) : Prop where
  o : OexC K (He.ga K c)
  x : XfC K (He.ga K c)
  no : PySem.W.findIn K (.ref (He.ga K c)) f = some none
  ini : PySem.W.findIn K (.ref (He.ga K c)) "__init__" = some (some (.ref (He.ma K (He.ga K c) "__init__")))
  fn : PySem.W.typeIn K (.ref (He.ma K (He.ga K c) "__init__")) = some (.type "function")
  me : PySem.W.exmOne K (.ref (He.ga K c)) (.ref (He.ga K c)) = some true
/-! ### try: .. except C as n: .. -/
section
variable {X : Cx} {W : WX} {j : Nat} {c n : Str} {i : Nat} {body suite : List Stmt} {b₀ : Stmt} {np pos pos' : Pos} {b : SM} {su : List (Str × D) → SM}
variable {eA eB : Expr} {ma mb : EM} {f : Str} {a : Addr} {oe : Obj} {cls : Value} {od : Option Addr} {pn : List (Addr × Obj)} {p1 p2 p3 p4 p5 : Pos}
end
section
variable {X : Cx} {W : WX} {j : Nat} {a : Addr} {pn : List (Addr × Obj)}
structure Bs (X : Cx) : Prop where
  u64 : X.A.units + 64 < cLine
  u65 : X.A.units + 65 < cLine
end
section
variable {P : Program} {w : World} {A : Around} {E : Value → Shared → Prop} {s : Shared}
end
section
variable {X : Cx} {W : WX} {e : Expr} {me : EM} {p1 pos1 p2 pos2 : Pos}
end
end Ag

/-! texts from behind; cells that are dicts, as odd values -/
namespace Ag
open PySem PySem.Spec PyProof.Rows L2
open PySem.SeqAt PySem.MeetsSeq AutoSeq1
section
variable {X : Cx} {W : WX} {e : Expr} {ma : EM}
end
/-! a call without arguments -/
/-! a cell that is a dict -/
section
variable {X : Cx} {pins : List (Addr × Obj)} {σ : L2.St} {H : Hp} {s : Shared} {m : Mp} {S : Sto} {v : V} {i : Nat}
end
section
variable {X : Cx}
end
end Ag

/-! dict(d), dict(list of pairs): keys that are tuples -/
namespace Ag
open PySem PySem.Spec PyProof.Rows L2
section
variable {prog : Program} {w : World} {A : Around} {E : Value → Shared → Prop} {s : Shared}
end
section
variable {X : Cx}
end
/-! over the layer -/
def keysD : List D → List NestedKey
  | kd :: vd :: l => match keyD kd with
    | some k => k :: keysD l
    | none => keysD l
  | _ => []
theorem DicR.keys {K : PySem.W.Frag} {m : Mp} {H : Hp} : ∀ {l : List D} {xs : List (NestedKey × Addr × Value)}, DicR K m H l xs → xs.map (·.1) = keysD l
  | [], _, h => by cases h; rfl
  | [_], _, h => by cases h
  | kd :: vd :: l, _, h => by
    cases h with
    | cons a b c d r =>
      simp only [List.map_cons, keysD, a]
      rw [DicR.keys r]
section
variable {X : Cx} {W : WX} {e : Expr} {ma : EM} {p pos : Pos}
end
/-! ### for p in d.items(): the pair stays a tuple -/
section
variable {prog : Program} {w : World} {A : Around} {E : Value → Shared → Prop} {s : Shared}
end
/-! ### sorted(set(t)), t a tuple of whole numbers -/
section
variable {X : Cx} {W : WX} {e : Expr} {me : EM} {p1 pos1 p2 pos2 : Pos}
end
end Ag

/-! x(lambda: body): the code's table is a cell of the store -/
namespace Ag
open PySem PySem.Spec PyProof.Rows L2
/-! ### the lambda made, with the heap told in full -/
/-- the heap behind the making: as before, or with one code more in the table -/
def MadeL (H : Hp) (P : Addr) (ps : Array Value) (q : Str) (d : Addr) (G : Hp) : Prop :=
  G = H ∨ (H d = none ∧ ∃ more : Array Value, G = upd (upd H P (.tbl (ps ++ more))) d (LamX.CodeO d q))
theorem MadeL.ext {H G : Hp} {P d : Addr} {ps : Array Value} {q : Str} {m : Mp} (w : MadeL H P ps q d G) (hP : H P = some (.tbl ps)) (inc : P ∈ m.c) : Ext m H m G := by
  rcases w with rfl | ⟨new, more, rfl⟩
  · exact .refl
  · have at_ : ∀ b o, H b = some o → b ≠ P → (upd (upd H P (.tbl (ps ++ more))) d (LamX.CodeO d q)) b = some o := fun b o h hb => by
      rw [upd_ne (ne_of_none h new), upd_ne hb]; exact h
    refine ⟨⟨[], by simp, by simp⟩, rfl, fun b o h => ?_, fun b o h n => at_ b o h fun z => n (by rw [z]; exact inc), fun b xs h => at_ b _ h fun z => ?_, fun b o u h => at_ b _ h fun z => ?_, fun b c h => at_ b _ h fun z => ?_⟩
    · by_cases hb : b = P
      · subst hb
        exact ⟨_, by rw [upd_ne (ne_of_none h new), upd_same]⟩
      · exact ⟨o, at_ b o h hb⟩
    all_goals (rw [z, hP] at h; cases h)
section
variable {K : PySem.W.Frag} {m : Mp} {S : Sto} {H G : Hp} {P d : Addr} {ps : Array Value} {q : Str} {i : Nat}
theorem Sim.tab_at (si : Sim K m S H) (h : S[i]? = some (.tab P q)) : m.c[i]? = some P ∧ LamX.TabS H P q := by
  have li : i < m.c.length := by rw [si.len]; exact (List.getElem?_eq_some_iff.mp h).1
  have e : m.c[i]? = some m.c[i] := List.getElem?_eq_getElem li
  obtain ⟨e2, t⟩ := si.cell i _ _ e h
  exact ⟨by rw [e, e2], t⟩
theorem MadeL.sim (w : MadeL H P ps q d G) (si : Sim K m S H) (h : S[i]? = some (.tab P q)) (hP : H P = some (.tbl ps)) (t : LamX.TabS G P q) : Sim K m S G := by
  obtain ⟨ci, _⟩ := si.tab_at h
  have inc : P ∈ m.c := List.mem_of_getElem? ci
  have e := w.ext hP inc
  refine ⟨si.len, si.nd, fun j a o h1 h2 => ?_, fun a ha => ?_, si.dis⟩
  · by_cases ha : a = P
    · subst ha
      have : j = i := (List.getElem?_inj (List.getElem?_eq_some_iff.mp h1).1 si.nd).mp (h1.trans ci.symm)
      subst this
      rw [h] at h2
      cases h2
      exact ⟨rfl, t⟩
    · refine (si.cell j a o h1 h2).tr e.tr ?_
      rcases w with rfl | ⟨new, more, rfl⟩
      · rfl
      · obtain ⟨u, hu, _⟩ := si.trk (List.mem_of_getElem? h1)
        rw [upd_ne (ne_of_none hu new), upd_ne ha]
  · obtain ⟨u, hu⟩ := si.hid a ha
    exact e.trk a u hu
end
section
variable {X : Cx} {pins : List (Addr × Obj)} {σ : L2.St} {H : Hp} {s : Shared}
end
/-! ### the call x(lambda: body) -/
section
variable {X : Cx} {pins : List (Addr × Obj)} {σ : L2.St} {H HZ : Hp} {s s1 : Shared}
end
/-! ### try with several except clauses: one takes the error, those ahead of it let it by -/
/-- the clauses: those of other classes, then the one that takes errors of the class cv; what follows is not looked at -/
inductive HdsOne (X : Cx) (cv : Value) (ts : Addr → Value → Option Addr → TS) : List ExceptHandler → Prop
  | take {x : Str} {c : Value} {np pos' : Pos} {b₀ : Stmt} {su : List Stmt} {post : List ExceptHandler} (hc : Names X x c) (hit : PySem.W.exmOne X.K cv c = some true)
      (hsu : ∀ (a : Addr) (oe : Obj) (cls : Value) (d : Option Addr) (pn : List (Addr × Obj)), L2N.Zn cls d oe → (∃ vs, oe.data = .fields vs) → PSs (X.suite a ((a, oe) :: pn)) (b₀ :: su) (ts a cls d)) :
      HdsOne X cv ts (.ExceptHandler (some (.Name x np)) none (b₀ :: su) pos' :: post)
  | miss {x : Str} {c : Value} {np pos' : Pos} {nm : Option Str} {b₀ : Stmt} {su : List Stmt} {hds : List ExceptHandler} (hc : Names X x c) (no : PySem.W.exmOne X.K cv c = some false) (r : HdsOne X cv ts hds) :
      HdsOne X cv ts (.ExceptHandler (some (.Name x np)) nm (b₀ :: su) pos' :: hds)
section
variable {X : Cx} {body : List Stmt} {h1 : ExceptHandler} {hr : List ExceptHandler} {pos : Pos} {cv : Value} {tb : WX → TS} {ts : Addr → Value → Option Addr → TS}
end
/-! ### defs that call what they get in a try -/
section
variable {P : Program} {w : World} {K : PySem.W.Frag} {mg : Str → Option Value} {base : Heap} {N : List Str} {x : Str} {sg : Scope} {g : Addr} {cdg : Value} {a : Str} {k : Nat}
end
/-! ### raise C(), C a class without an own __init__ -/
/-! ### the law's end, with tables of code -/
/-! ### a def whose code has a table -/
end Ag

namespace Ag
open PySem PySem.Spec PyProof.Rows L2 Sem Builtin
/-! ### == and != of things of a class without own __eq__: the same thing -/
section
variable {prog : Program} {w : World} {A : Around} {E : Value → Shared → Prop} {s : Shared} {K : PySem.W.Frag} {x y C : Addr} {ox oy : Obj} {od od' : Option Obj} {u : Value} {T : String}
end
section
variable {X : Cx} {W : WX} {j : Nat} {c : Str}
end
/-! ### bool(x) of a class with neither __bool__ nor __len__ -/
section
variable {prog : Program} {w : World} {A : Around} {E : Value → Shared → Prop} {s : Shared} {K : PySem.W.Frag} {x C L f : Addr} {h₀ : Heap} {m : Str → Option Value} {ox : Obj} {od : Option Obj}
end
section
variable {X : Cx} {W : WX} {j : Nat} {c : Str}
end
section
variable {X : Cx}
end
end Ag

/-! repr of data with great ints -/
namespace Ag
open PySem PySem.Spec PyProof.Rows L2
mutual
def bigS : PyData → Bool
  | .none => true
  | .bool _ => true
  | .int i => decide (i.natAbs < 2 ^ 4000)
  | .str _ => true
  | .list xs => bigSs xs
  | .tuple xs => bigSs xs
  | .dict _ => false
def bigSs : List PyData → Bool
  | [] => true
  | x :: xs => bigS x && bigSs xs
end
section
open PySem.Builtin PySem.Builtin.Str PySem.Builtin.Int
variable {prog : Program} {w : World} {A : Around} {E : Value → Shared → Prop} {s : Shared}
theorem big_lt {n : Nat} (h : n < 2 ^ 4000) : n < 10 ^ 4300 :=
  Nat.lt_of_lt_of_le h (Nat.le_trans (Nat.pow_le_pow_left (by decide : 2 ≤ 10) 4000) (Nat.pow_le_pow_right (by decide : 0 < 10) (by decide : 4000 ≤ 4300)))
theorem int_big {a : Int} {t : Tok} {Q : Value → Shared → Prop} (hn : s.heap.NoDigits) (hlt : a.natAbs < 10 ^ 4300) (h : Q (.str (toString a) s.toks) { s with toks := s.toks + 1 }) :
    wpAny (model prog w) A (call (.builtin "int.__repr__") [.int a t]) (fun v s' => ∃ u, v = .str (toString a) u ∧ Q v s') E s := by
  refine wpAny_call_entry F.slot_int_repr (typeIs_int s a t) F.entry_int_repr ?_ (F.args_int_repr_1 _)
  unfold Builtin.«int.__repr__»
  show wpAny _ _ (do let r ← Builtin.overDigitLimit? a; _) _ _ s
  refine wpAny_bind (overDigitLimit_any hn (fun hl => ?_) (fun hge => absurd hlt (Nat.not_lt.mpr hge)))
  exact wpAny_bind (wpAny_mkStr (wpAny_pure ⟨_, rfl, ⟨_, rfl, h⟩⟩) (int_text_fits10 hl))
theorem reprObj_big {a : Int} {t : Tok} {Q : Value → Shared → Prop} (hn : s.heap.NoDigits) (hlt : a.natAbs < 10 ^ 4300) (h : Q (.str (toString a) s.toks) { s with toks := s.toks + 1 }) : wpAny (model prog w) A (pyReprObj (.int a t)) Q E s := by
  have hv : [Value.int a t].any Value.onHeap = false := rfl
  unfold pyReprObj
  simp only [cRoomFor, hv, Bool.false_eq_true, if_false, pure_bind]
  refine wpAny_bind (wpAny_specialOf (name := Str.ofString "__repr__") (typeIs_int s a t) F.slot_int_repr.lookup ?_)
  refine wpAny_bind (m := callSpecialIfBound? (.int a t) (Str.ofString "__repr__")) (wpAny_callSpecialIfBound?_slot (name := Str.ofString "__repr__") (typeIs_int s a t) F.slot_int_repr (wpAny_mono (int_big (Q := Q) hn hlt h) (fun v s1 hq => ?_) fun _ _ e => e))
  obtain ⟨u, rfl, q⟩ := hq
  exact wpAny_bind (wpAny_isInstance (T := "str") (b := true) rfl isSubtype_str_str (wpAny_pure q))
end
section
variable {prog : Program} {w : World} {h₀ : Heap}
theorem rk_int {a : Int} (t : Tok) (hn : h₀.NoDigits) (hlt : a.natAbs < 10 ^ 4300) (as : List Addr) (d : Nat) : ReprK prog w as h₀ d (.int a t) (toString a) := fun n hz A g E s Q hg hcl hu hk hQ => by
  have hn' : n ≤ sizeLine := by omega
  rw [pyReprUnder_leaf (v := .int a t) hn' (fun _ e => nomatch e)]
  unfold pyRepr
  exact wpAny_bind (reprObj_big (hn.keeps hk) hlt (wpAny_pure (hQ s.heap _ fun _ _ e => e)))
mutual
theorem rk_of : ∀ {v : Value} {d : PyData} {as : List Addr}, h₀.NoDigits → Reads h₀ v d as → bigS d = true → d.shown.length ≤ sizeLine → ∃ bs, ReadAtMost h₀ d.depth bs ∧ ReprK prog w bs h₀ d.depth v d.shown
  | _, _, _, _, .none, _, _ => ⟨[], (fun _ h => nomatch h), by simp only [PyData.shown]; exact .of_is ReprIs.none _ _ _⟩
  | _, _, _, _, .bool b, _, _ => ⟨[], (fun _ h => nomatch h), by simp only [PyData.shown]; exact .of_is (ReprIs.bool b) _ _ _⟩
  | _, _, _, hn, .int i t, hs, _ => ⟨[], (fun _ h => nomatch h), by simp only [PyData.shown]; exact rk_int t hn (big_lt (of_decide_eq_true (by simpa only [bigS] using hs))) _ _⟩
  | _, _, _, _, .str x t, _, hz => ⟨[], (fun _ h => nomatch h), by simp only [PyData.shown]; exact .of_is (ReprIs.str x t (by simpa only [PyData.shown] using hz)) _ _ _⟩
  | _, _, _, hn, .list (a := a) (vs := vs) (xs := xs) h1 h2 h3 h4, hs, hz => by
    have hz' : (listText (PyData.shownAll xs)).length ≤ sizeLine := by simpa only [PyData.shown] using hz
    obtain ⟨bs, hb, hk⟩ := rks_of hn h4 (by simpa [bigS] using hs) (fun t ht => Nat.le_trans (listText_mem_le ht) hz')
    have r : Reads h₀ (.ref a) (.list xs) _ := .list h1 h2 h3 h4
    have hna : a ∉ bs := not_mem_of_deeper r (by simp only [PyData.depth]; omega) hb
    refine ⟨a :: bs, ReadAtMost.cons r (by simp only [PyData.depth]; omega) hb, ?_⟩
    simp only [PyData.depth, PyData.shown]
    obtain ⟨l⟩ := vs
    cases l with
    | nil =>
      have h4' : ReadsAll h₀ [] xs _ := h4
      cases h4'
      simp only [PyData.shownAll, listText_nil]
      exact ReprK.listEmpty h1 h2 h3
    | cons x l => exact ReprK.list h1 h2 h3 hna (by simpa using hk.length_eq) (fun i y e => hk.item i y (by simpa using e))
  | _, _, _, hn, .tuple (a := a) (xs := xs) h1 h2 h3 h4, hs, hz => by
    have hz' : (tupleText (PyData.shownAll xs)).length ≤ sizeLine := by simpa only [PyData.shown] using hz
    obtain ⟨bs, hb, hk⟩ := rks_of hn h4 (by simpa [bigS] using hs) (fun t ht => Nat.le_trans (tupleText_mem_le ht) hz')
    have r : Reads h₀ (.ref a) (.tuple xs) _ := .tuple h1 h2 h3 h4
    have hna : a ∉ bs := not_mem_of_deeper r (by simp only [PyData.depth]; omega) hb
    refine ⟨a :: bs, ReadAtMost.cons r (by simp only [PyData.depth]; omega) hb, ?_⟩
    simp only [PyData.depth, PyData.shown]
    exact ReprK.tuple h1 h2 h3 hna hk
  | _, _, _, _, .dict h1 h2 h3 h4 h5, hs, hz => by simp only [bigS] at hs; cases hs
theorem rks_of : ∀ {vs : List Value} {ds : List PyData} {as : List Addr}, h₀.NoDigits → ReadsAll h₀ vs ds as → bigSs ds = true → (∀ t ∈ PyData.shownAll ds, t.length ≤ sizeLine) →
    ∃ bs, ReadAtMost h₀ (PyData.depthAll ds) bs ∧ ReprAllK prog w bs h₀ (PyData.depthAll ds) vs (PyData.shownAll ds)
  | _, _, _, _, .nil, _, _ => ⟨[], (fun _ h => nomatch h), by simp only [PyData.shownAll]; exact .nil⟩
  | _, _, _, hn, .cons (d := d) (ds := ds) r rs, hs, hz => by
    have hs' : bigS d = true ∧ bigSs ds = true := by simpa [bigSs] using hs
    obtain ⟨b1, hb1, k1⟩ := rk_of hn r hs'.1 (hz _ (by simp only [PyData.shownAll]; exact List.mem_cons_self ..))
    obtain ⟨b2, hb2, k2⟩ := rks_of hn rs hs'.2 (fun t ht => hz t (by simp only [PyData.shownAll]; exact List.mem_cons_of_mem _ ht))
    refine ⟨b1 ++ b2, ?_, ?_⟩
    · intro b hm
      simp only [PyData.depthAll]
      rcases List.mem_append.mp hm with hm | hm
      · obtain ⟨d', as', r', hd'⟩ := hb1 b hm
        exact ⟨d', as', r', Nat.le_trans hd' (Nat.le_max_left _ _)⟩
      · obtain ⟨d', as', r', hd'⟩ := hb2 b hm
        exact ⟨d', as', r', Nat.le_trans hd' (Nat.le_max_right _ _)⟩
    · simp only [PyData.depthAll, PyData.shownAll]
      exact .cons ((k1.more fun b hb => List.mem_append_left _ hb).level_le (Nat.le_max_left _ _)) (k2.more_le (fun b hb => List.mem_append_right _ hb) (Nat.le_max_right _ _))
end
end
section
variable {X : Cx} {W : WX} {j : Nat}
end
end Ag

/-! x == y, y of a class with own __eq__, x of one without -/
namespace Ag
open PySem PySem.Spec PyProof.Rows L2 Sem Builtin
section
variable {prog : Program} {w : World} {A : Around} {E : Value → Shared → Prop} {s : Shared} {K : PySem.W.Frag} {x y C C' f : Addr} {ox oy : Obj} {od od' : Option Obj}
end
section
variable {X : Cx} {W : WX} {j k : Nat} {c c' : Str} {f : Addr} {fd : FuncData} {ps : List Str} {fm : List D → Sto → Res D}
end
end Ag

/-! try: .. except (A, B, C) as n: .., the error a cell of the store -/
namespace Ag
open PySem PySem.Spec PyProof.Rows L2
section
variable {X : Cx} {pins : List (Addr × Obj)} {σ : L2.St} {H : Hp} {s : Shared} {a : Addr} {oe : Obj} {vs : Array Value}
end
/-- the suite's context: the error stands in its ground -/
def suiteF (X : Cx) (a : Addr) (pn : List (Addr × Obj)) (o : Obj) : Cx := { X.suite a pn with H_0 := upd X.H_0 a (.frz o (ErO a o)) }
section
variable {X : Cx} {pins : List (Addr × Obj)} {σ : L2.St} {H : Hp} {s : Shared} {a : Addr} {oe : Obj} {vs : Array Value}
end
section
variable {X : Cx} {x1 x2 x3 n : Str} {c1 c2 c3 : Value} {i kk : Nat} {body suite : List Stmt} {b₀ : Stmt} {p1 p2 p3 tpos pos pos' : Pos} {tb : WX → TS} {ts : TS} {Wout : WX}
end
end Ag

/-! isinstance of errors, their fields; defs called while an error is handled; list.count -/
namespace Ag
open PySem PySem.Spec PyProof.Rows L2
/-! ### isinstance(e, C) -/
section
open PySem.W PySem.Calls
variable {prog : Program} {w : World} {A : Around} {E : Value → Shared → Prop} {s : Shared} {K : Frag} {x D : Addr} {ox : Obj} {od : Option Obj}
end
section
variable {X : Cx} {pins : List (Addr × Obj)} {σ : L2.St} {H : Hp} {s : Shared} {m : Mp} {S : Sto} {v : V} {i : Nat} {c : Str} {fs : List (Str × D)}
end
/-! ### e.f -/
/-! ### list.count -/
end Ag

/-! defs that raise nothing, called while an error is handled -/
namespace Ag
open PySem PySem.Spec PyProof.Rows L2
structure RoomW (k : Nat) (A : Around) : Prop where
  dp : A.depth + 3 * k + 5 < recursionLimit
  un : A.units + 16 * k + 200 < cLine
theorem RoomW.mono {j k : Nat} {A : Around} (r : RoomW k A) (h : j ≤ k) : RoomW j A := ⟨by have := r.dp; omega, by have := r.un; omega⟩
theorem RoomW.deeper {k : Nat} {A : Around} (r : RoomW (k + 1) A) (env : Env) : RoomW k (A.deeper env) :=
  ⟨by have := r.dp; show A.depth + 1 + 3 * k + 5 < _; omega, by have := r.un; show A.units + 3 + 16 * k + 200 < _; omega⟩
theorem RoomW.depth {k : Nat} {A : Around} (r : RoomW k A) : A.depth < recursionLimit := by have := r.dp; omega
theorem RoomW.of {k : Nat} {A : Around} (r : Room k A) : RoomW k A := ⟨r.dp, r.un⟩
/-- the context of a suite, and of the defs called there -/
structure Bw (X : Cx) (k : Nat) : Prop where
  room : RoomW k X.A
  gd : X.A.guards = some []
theorem Bw.u64 {X : Cx} {k : Nat} (B : Bw X k) : X.A.units + 64 < cLine := by have := B.room.un; omega
theorem Bw.u65 {X : Cx} {k : Nat} (B : Bw X k) : X.A.units + 65 < cLine := by have := B.room.un; omega
theorem Bd.suite {X : Cx} {W : WX} {k : Nat} (B : Bd X W k) (a : Addr) (pn : List (Addr × Obj)) (o : Obj) : Bw (suiteF X a pn o) k := ⟨⟨B.room.dp, B.room.un⟩, B.gd⟩
/-- what a def promises that raises nothing, whatever is handled -/
structure FnW (P : Program) (w : World) (K : PySem.W.Frag) (mg : Str → Option Value) (base : Heap) (k : Nat) (f : Addr) (fd : FuncData) (ps : List Str) (sp : Sp) : Prop where
  len : ∀ vs H Q E, sp vs H Q E → vs.length = ps.length
  run : ∀ (A : Around) (outer : List Env) (s : Shared) (H : Hp) (args : Args) (us : List Value) (vs : List V) (Q : VK), A.guards = some [] → RoomW k A → Env0 P w K mg base A outer s H → BindsTo s fd args (ps.zip us) → Vals vs us → sp vs H Q (fun _ _ _ => False) →
    codeAny (model P w) A (.call (.ref f) args) (CR (L2N.CX P w) outer P w H s Q fun _ _ _ => False) s
section
variable {P : Program} {w : World} {K : PySem.W.Frag} {mg : Str → Option Value} {base : Heap} {x qual : Str} {params : Arguments} {body : List Stmt} {scope : Scope} {kws : List (Str × V)} {f : Addr} {fd : FuncData}
end
section
variable {X : Cx} {W : WX} {e : Expr} {es : List Expr} {pos p : Pos} {mr : AM} {k n j : Nat} {f : Addr} {fd : FuncData} {ps : List Str} {fm : List D → Sto → Res D} {x : Str}
end
/-! ### try: .. except (A, B, C) as n: .. -/
section
variable {K : PySem.W.Frag} {m : Mp} {H : Hp} {σ : L2.St} {en : En} {S : Sto} {a : Addr} {o : Obj} {c : Str} {fs : List (Str × D)} {od : Option Addr}
/-- the caught error as a cell of the store -/
theorem caught (si : Sim K m S H) (er : EnvR K m H σ en) (x : ExR K m H od fs) (na : H a = none) (hc : o.cls = .ref (He.ga K c)) (hd : o.dict = od) (hv : ∃ vs, o.data = .fields vs) (hx : PXN.CtxN o) (i : Nat) :
    Ext m H (m.add a) (upd H a (.frz o (ErO a o))) ∧ EnvR K (m.add a) (upd H a (.frz o (ErO a o))) (σ.set i (some (.ref a))) (en.set i (some (.ref S.length))) ∧ Sim K (m.add a) (S ++ [.err c fs]) (upd H a (.frz o (ErO a o))) := by
  have e : Ext m H (m.add a) (upd H a (.frz o (ErO a o))) := .cell na
  exact ⟨e, (er.to e).set (.ref (si.last a)), si.grow na ⟨o, upd_same, hc, hv, hx, by rw [hd]; exact x.tr e.tr⟩⟩
end
section
variable {X : Cx} {W : WX} {j : Nat} {x1 x2 x3 n : Str} {c1 c2 c3 : Value} {i kk : Nat} {body suite : List Stmt} {b₀ : Stmt} {p1 p2 p3 tpos pos pos' : Pos} {b su : SM} {cs : List Str}
end
end Ag

/-! defs that call what they get in a try, and look at the error -/
namespace Ag
open PySem PySem.Spec PyProof.Rows L2
section
variable {P : Program} {w : World} {K : PySem.W.Frag} {mg : Str → Option Value} {base : Heap} {N : List Str} {x : Str} {sg : Scope} {g : Addr} {cdg : Value} {a : Str} {k : Nat}
end
end Ag

/-! raise C(x), C over LookupError or ArithmeticError, with an own __init__ that keeps x -/
namespace Ag
open PySem PySem.Spec PyProof.Rows L2
abbrev btB (b : String) : List Value := [.type b, .type "Exception", .type "BaseException", .type "object"]
/-- what is known of the built-in base -/
structure Bas (b ni : String) : Prop where
  F : ∃ ii, ExcBaseFacts b ni ii (btB b)
  pass : ∀ self, refuseLoop self "__setattr__" (btB b) = pure ()
section
open PySem.HandSPX PySem.W PySem.Calls PyProof.Rows Builtin Builtin.ObjectAttr
variable {prog : Program} {w : World} {A : Around} {R : Result → Shared → Prop} {hp : Heap} {g : Array GenState} {d : Drawn} {t : Nat} {os : OsState}
end
/-- what the written part says of the class -/
structure OxB (K : PySem.W.Frag) (b ni : String) (C : Addr) : Prop where
  bas : Bas b ni
  cls : ∃ nm q N bs bm sn sub ab col dd k0 k1 k2 k3 k5, K.lookup C = some (excClassObj nm q C N bs bm true sn sub ab col dd k0 k1 k2 k3 k5 ni) ∧ refsB b bm = true
  sa : PySem.W.findIn K (.ref C) "__setattr__" = some (some (.builtin "object.__setattr__"))
  exC : PySem.W.subIn K (.ref C) (.type "BaseException") = some true
  tyC : PySem.W.typeIn K (.ref C) = some (.type "type")
  kC : PySem.W.keepIn K (.ref C) = true
section
variable {X : Cx} {pins : List (Addr × Obj)} {σ : L2.St} {H : Hp} {s : Shared} {a C dx : Addr} {f : Str} {y : V} {u : Value} {Q : Unit → Shared → Prop} {E : Value → Shared → Prop} {A : Around} {b ni : String}
end
section
variable {X : Cx} {o e : Expr} {es : List Expr} {to te : TE} {ta : TA} {f : Str} {p p' p1 p2 pos : Pos} {b ni : String}
end
/-- what the layer asks of such a class c with the field f -/
structure ErB (K : PySem.W.Frag) (b ni : String) (c f : Str) : Prop where
  o : OxB K b ni (He.ga K c)
  no : PySem.W.findIn K (.ref (He.ga K c)) f = some none
  ini : PySem.W.findIn K (.ref (He.ga K c)) "__init__" = some (some (.ref (He.ma K (He.ga K c) "__init__")))
  fn : PySem.W.typeIn K (.ref (He.ma K (He.ga K c) "__init__")) = some (.type "function")
section
variable {X : Cx} {W : WX} {e : Expr} {ma : EM} {j : Nat} {c f : Str} {b ni : String}
end
end Ag

/-! sorted(xs, key=lambda y: y[0]) of tuples that begin with texts -/
namespace Ag
open PySem PySem.Spec PyProof.Rows L2 PySem.W
section
variable {prog : Program} {w : World} {A : Around} {g : Heap} {s : Shared} {f t d : Addr} {y : Str} {k : Str} {tk : Tok} {its : Array Value}
end
section
variable {X : Cx} {W : WX} {e : Expr} {ma : EM} {y : Str} {i j jj : Nat} {c P : Addr} {q : Str} {params : Arguments} {scope : Scope} {p p1 p2 p3 pos lpos kp : Pos}
end
end Ag

/-! own classes: C(), o[i], o[i] = v, x in o; dicts with text keys: list(d), list(d.items()), dict(pairs) -/
namespace Ag
open PySem PySem.Spec PyProof.Rows L2
section
variable {X : Cx} {W : WX} {e o i : Expr} {pos p : Pos} {mo mi : EM} {k n j : Nat} {f : Addr} {fd : FuncData} {ps : List Str} {fm : List D → Sto → Res D} {c : Str}
end
/-! ### dicts with int and text keys -/
section
variable {K : PySem.W.Frag} {m : Mp} {H : Hp}
end
section
variable {X : Cx} {W : WX} {e : Expr} {me : EM} {p pos : Pos}
theorem Ext.all {K : PySem.W.Frag} {m : Mp} {S : Sto} {H H' : Hp} (k : ∀ b o, H b = some o → H' b = some o) : Ext m H m H' := ⟨⟨[], by simp, by simp⟩, rfl, fun a o h => ⟨o, k a o h⟩, fun a o h _ => k a o h, fun a xs h => k a _ h, fun a o u h => k a _ h, fun a q h => k a _ h⟩
theorem Sim.all {K : PySem.W.Frag} {m : Mp} {S : Sto} {H H' : Hp} (s : Sim K m S H) (k : ∀ b o, H b = some o → H' b = some o) : Sim K m S H' := s.same rfl (Ext.all (K := K) (S := S) k).tr (fun a ha => by obtain ⟨o, h, _⟩ := s.trk ha; rw [h, k a o h]) (fun a ha => by obtain ⟨o, h⟩ := s.hid a ha; exact ⟨o, k a o h⟩) s.dis
end
/-! dict(pairs), later ones win -/
section
variable {X : Cx}
end
section
variable {X : Cx} {W : WX} {e : Expr} {ma : EM} {p pos : Pos}
end
end Ag

/-! sorted(set(x)), x up to 1000 ints, below 64 of them distinct -/
namespace Ag
open PySem PySem.Spec PyProof.Rows L2 Sem Builtin
section
variable {X : Cx} {W : WX} {e : Expr} {me : EM} {p1 pos1 p2 pos2 : Pos}
end
end Ag

/-! d != {} of a dict with texts as keys -/
namespace Ag
open PySem PySem.Spec PyProof.Rows L2 Sem Builtin
end Ag

namespace Ag
open PySem PySem.Spec PyProof.Rows L2
open PySem.SeqAt PySem.MeetsSeq AutoSeq1
/-! ### empty dicts among the things of a tuple: repr; beside texts: ==, in a list -/
section
variable {A : Around} {s : Shared} {d : Addr} {o : Obj} {es : Array DictEntry} {ep : Nat}
end
section
variable {X : Cx} {W : WX} {j : Nat}
/-! repr -/
end
end Ag

/-! a method that gives a lambda back; the lambda called in a try -/
namespace Ag
open PySem PySem.Spec PyProof.Rows L2
/-! ### try: .. except (A, B, C, D): .. -/
section
variable {X : Cx} {x1 x2 x3 x4 : Str} {c1 c2 c3 c4 : Value} {kk : Nat} {body suite : List Stmt} {b₀ : Stmt} {p1 p2 p3 p4 tpos pos pos' : Pos} {tb : WX → TS} {ts : TS} {Wout : WX}
end
/-! ### what a lambda holds, told by the heap while its maker is gone -/
def CelO (c : Addr) (v : V) : HO := .ext fun h => ∃ u, h.IsCell c (some u) ∧ RelV v u
def trkC (H : Hp) : List (Addr × V) → Hp
  | [] => H
  | (c, v) :: l => upd (trkC H l) c (CelO c v)
def cloH (H : Hp) (f : Addr) (o : Obj) (l : List (Addr × V)) : Hp := upd (trkC H l) f (ErO f o)
section
variable {H : Hp} {f b : Addr} {o : Obj} {l : List (Addr × V)} {u : HO}
end
section
variable {X : Cx} {pins : List (Addr × Obj)} {σ : L2.St} {H : Hp} {s : Shared} {f : Addr} {o : Obj} {l : List (Addr × V)}
end
/-! ### the maker -/
/-- what a maker gives: nothing, or the lambda k with what it holds -/
inductive MkR where
  | non (S : Sto) | clo (k : Nat) (ds : List D) (S : Sto) | stuck
def capD (en : En) : List Nat → Option (List D)
  | [] => some []
  | i :: is => match slotD en i with
    | some d => (capD en is).map (d :: ·)
    | none => none
/-- names, a closure, and cells with what they hold -/
structure CloF (ys : List Str) (cl : List (Str × Addr)) (l : List (Addr × V)) : Prop where
  len : l.length = ys.length
  at_ : ∀ (i : Nat) (y : Str), ys[i]? = some y → ∃ p, l[i]? = some p ∧ cl.lookup y = some p.1
  only : ∀ (y : Str) (c : Addr), cl.lookup y = some c → y ∈ ys
section
variable (K : PySem.W.Frag) (Ls : List LSyn) (q : Str)
def PostM (m : Mp) (H : Hp) (r : MkR) (Q : VK) : Prop := match r with
  | .non S' => ∀ m' H', Ext m H m' H' → Sim K m' S' H' → Q .non H'
  | .clo k ds S' => ∀ (L : LSyn) (m' : Mp) (Hx : Hp) (f d : Addr) (pm ctv : Value) (cl : List (Str × Addr)) (l : List (Addr × V)), Ls[k]? = some L → Ext m H m' Hx → Sim K m' S' Hx → Reps K m' Hx (l.map (·.2)) ds → CloF L.ys cl l → Hx f = none → (∀ p ∈ l, Hx p.1 = none) →
      f ∉ l.map (·.1) → (l.map (·.1)).Nodup → Hx d = some (LamX.CodeO d q) → Q (.ref f) (cloH Hx f (PySem.W.kla_obj "<lambda>" q L.pr L.bd L.sc cl pm d ctv) l)
  | .stuck => False
end
theorem PostM.to {K : PySem.W.Frag} {Ls : List LSyn} {q : Str} {m m' : Mp} {H H' : Hp} {r : MkR} {Q : VK} (h : PostM K Ls q m H r Q) (e : Ext m H m' H') : PostM K Ls q m' H' r Q := by
  cases r with
  | non S => exact fun m2 H2 e2 => h m2 H2 (e.trans e2)
  | clo k ds S => exact fun L m2 Hx f d pm ctv cl l hL e2 => h L m2 Hx f d pm ctv cl l hL (e.trans e2)
  | stuck => exact h
section
variable {X : Cx} {pins : List (Addr × Obj)} {σ : L2.St} {H : Hp} {s : Shared}
end
/-- what the maker's run must come to -/
def GoalM (X : Cx) (Ls : List LSyn) (q : Str) (m : Mp) (H : Hp) (r : MkR) (R : Flow → Shared → Prop) : Prop := match r with
  | .non S' => ∀ σ' m' H' s', L2.Inv X [] σ' H' s' → Ext m H m' H' → Sim X.K m' S' H' → R (.ret .none) s'
  | .clo k ds S' => ∀ (L : LSyn) (en : En) (σ' : L2.St) (m' : Mp) (G : Hp) (s' : Shared) (f d : Addr) (pm ctv : Value), Ls[k]? = some L → L2.Inv X [] σ' G s' → Ext m H m' G → Sim X.K m' S' G → EnvR X.K m' G σ' en → capD en L.cp = some ds →
      s'.heap.get? f = some (PySem.W.kla_obj "<lambda>" q L.pr L.bd L.sc (cloFrom X.env.cells L.sc.names []) pm d ctv) → G f = none → G d = some (LamX.CodeO d q) → X.s_0.heap.objs.size ≤ f → R (.ret (.ref f)) s'
  | .stuck => False
theorem GoalM.to {X : Cx} {Ls : List LSyn} {q : Str} {m m' : Mp} {H H' : Hp} {r : MkR} {R : Flow → Shared → Prop} (h : GoalM X Ls q m H r R) (e : Ext m H m' H') : GoalM X Ls q m' H' r R := by
  cases r with
  | non S => exact fun σ2 m2 H2 s2 J e2 => h σ2 m2 H2 s2 J (e.trans e2)
  | clo k ds S => exact fun L en σ2 m2 G s2 f d pm ctv hL J e2 => h L en σ2 m2 G s2 f d pm ctv hL J (e.trans e2)
  | stuck => exact h
section
variable {X : Cx} {W : WX} {Ls : List LSyn} {q : Str} {st : Stmt} {rest : List Stmt} {mm : En → Sto → MkR} {sM : SM}
end
section
variable {X : Cx} {W : WX} {Ls : List LSyn} {q : Str} {rest : List Stmt} {mm : En → Sto → MkR} {bm : BM}
end
/-- what the texts tell of a lambda of the maker -/
structure LOk (N : List Str) (scope : Scope) (L : LSyn) : Prop where
  len : L.ys.length = L.cp.length
  nd : L.ys.Nodup
  at_ : ∀ (i j : Nat) (y : Str), L.ys[i]? = some y → L.cp[i]? = some j → N[j]? = some y ∧ scope.names.lookup y = some .cell
  free : ∀ y ∈ L.ys, (y, NameKind.free) ∈ L.sc.names
  only : ∀ y, (y, NameKind.free) ∈ L.sc.names → y ∈ L.ys
section
variable {X : Cx} {σ : L2.St} {G : Hp} {s : Shared} {m : Mp} {en : En}
end
section
variable {P : Program} {w : World} {K : PySem.W.Frag} {mg : Str → Option Value} {base : Heap} {x qual : Str} {params : Arguments} {body : List Stmt} {scope : Scope} {kws : List (Str × V)} {f c : Addr} {fd : FuncData}
end
/-! ### the call of a method that makes lambdas -/
section
variable {X : Cx} {W : WX} {j k n : Nat} {o e : Expr} {es : List Expr} {ma : EM} {mr : AM} {f : Addr} {fd : FuncData} {ps : List Str} {apos pos : Pos} {c : Str} {Ls : List LSyn} {q : Str} {mk : List D → Sto → MkR}
end
/-! ### the lambda called, its maker gone -/
abbrev lamEnvD (q : Str) (sc : Scope) (L f c' : Addr) (cl : List (Str × Addr)) : Env := PySem.W.envX q sc L f (.ref c') cl
def lamCxD (P : Program) (w : World) (K : PySem.W.Frag) (mg : Str → Option Value) (base : Heap) (A : Around) (outer : List Env) (s : Shared) (H : Hp) (E : XK) (N : List Str) (q : Str) (sc : Scope) (f c' : Addr) (cl : List (Str × Addr)) : Cx where
  prog := P
  w := w
  K := K
  mg := mg
  base := base
  A := A.deeper (lamEnvD q sc s.heap.objs.size f c' cl)
  N := N
  s_0 := s
  H_0 := H
  env := lamEnvD q sc s.heap.objs.size f c' cl
  outer := outer
  stack := lamEnvD q sc s.heap.objs.size f c' cl :: outer
  ex := []
  fn := fun _ => false
  calm := true
  pn := []
  xe := fun e s' => wpAny (model P w) (A.deeper (lamEnvD q sc s.heap.objs.size f c' cl)) (leaving (lamEnvD q sc s.heap.objs.size f c' cl) e) (fun _ s'' => L2N.CX P w outer H s E e s'') (fun e' s'' => L2N.CX P w outer H s E e' s'') s'
/-- the lambda's own text -/
structure BodOk (P : Program) (w : World) (K : PySem.W.Frag) (mg : Str → Option Value) (base : Heap) (q : Str) (k : Nat) (L : LSyn) (me : EM) : Prop where
  sc : ∃ N' sc', LamX.LamS sc' L.sc ∧ LOk N' sc' L
  bind : ∀ (cl : List (Str × Addr)) (pm cv ctv : Value), bindArgs (PySem.W.kla_fn "<lambda>" q L.pr L.bd L.sc cl pm cv ctv) ⟨[], []⟩ = pure []
  pe : ∀ (A : Around) (outer : List Env) (s : Shared) (H : Hp) (E : XK) (f d : Addr) (cl : List (Str × Addr)), Bd (lamCxD P w K mg base A outer s H E L.ys q L.sc f d cl) (WofE E) k → PE (lamCxD P w K mg base A outer s H E L.ys q L.sc f d cl) L.bd (tE K (WofE E) me)
/-! ### act = self.f(..); if act is None: return ..; try: act() except (A, B, C, D): return ..; return .. -/
section
variable {X : Cx} {W : WX} {Ls : List LSyn} {bs : List EM} {cs : List Str} {q : Str} {mm : En → Sto → MkR}
end
/-! ### f'{a}..{b}' of two ints -/
section
variable {X : Cx} {W : WX} {e1 e2 : Expr} {ma mb : EM} {sep : Str} {k : Nat} {p1 p2 p3 pos : Pos}
end
end Ag
/-! ### divmod by a great divisor -/
namespace Ag
open PySem PySem.Spec PyProof.Rows L2
end Ag
/-! ### tuple(text) -/
namespace Ag
open PySem PySem.Spec PyProof.Rows L2
end Ag
/-! ### {k: v, l: w}, and dict(list(d.items()) + [..]) -/
namespace Ag
open PySem PySem.Spec PyProof.Rows L2
section
variable {X : Cx} {W : WX}
theorem Paired.mp {α β : Type} {F G : α → β → Prop} (h : ∀ a b, F a b → G a b) : ∀ {xs : List α} {ys : List β}, Paired F xs ys → Paired G xs ys
  | _, _, .nil => .nil
  | _, _, .cons r t => .cons (h _ _ r) (Paired.mp h t)
theorem Paired.app {α β : Type} {F : α → β → Prop} : ∀ {xs zs : List α} {ys ws : List β}, Paired F xs ys → Paired F zs ws → Paired F (xs ++ zs) (ys ++ ws)
  | _, _, _, _, .nil, h => h
  | _, _, _, _, .cons r t, h => .cons r (Paired.app t h)
end
end Ag

/-! comprehensions while an error is handled -/
namespace Ag
open PySem PySem.Spec PyProof.Rows L2
/-- the handled error stands in the context's ground, nothing behind it -/
structure HotF (X : Cx) : Prop where
  ex : ∃ (a : Addr) (o : Obj), X.A.handled = some (.ref a) ∧ X.H_0 a = some (.frz o (ErO a o)) ∧ PXN.CtxN o ∧ ∃ vs, o.data = .fields vs
section
variable {X : Cx} {pins : List (Addr × Obj)} {σ : L2.St} {H : Hp} {s : Shared}
theorem HotF.at_ (h : HotF X) (I : L2.Inv X pins σ H s) : ∃ a, HotX.HotAt X.A a s.heap ∧ ∃ u, H a = some u := by
  obtain ⟨a, o, h1, h2, h3, vs, h4⟩ := h.ex
  have q := I.base.frzs a o _ h2
  exact ⟨a, ⟨h1, o, vs, (I.hok a _ q).1, h4, h3 vs h4⟩, _, q⟩
theorem HotF.blk (h : HotF X) (I : L2.Inv X pins σ H s) (t : Shared) (sc : Scope) (env : Env) (fp : List Addr) : HotF (X.blk t H sc env fp) := by
  obtain ⟨a, o, h1, h2, h3, h4⟩ := h.ex
  exact ⟨a, o, h1, I.base.frzs a o _ h2, h3, h4⟩
theorem HotF.suite {a : Addr} {pn : List (Addr × Obj)} {o : Obj} (hc : PXN.CtxN o) (hv : ∃ vs, o.data = .fields vs) : HotF (suiteF X a pn o) := ⟨a, o, rfl, upd_same, hc, hv⟩
end
/-! ### iterators where an error is handled -/
structure TurnF (P : Program) (w : World) (K : PySem.W.Frag) (tg : Expr) (J : L2.It) (fp : List Addr) (it : Addr) (at_ : Nat → Heap → Prop) : Prop where
  obj : ∀ k g, at_ k g → ∀ c ∈ fp, ∃ o, g.get? c = some o ∧ ∀ v, o.data ≠ .cell v
  keep : ∀ k g g', at_ k g → (∀ c ∈ fp, ∀ o, g.get? c = some o → g'.get? c = some o) → at_ k g'
  item : ∀ (X : Cx), X.prog = P → X.w = w → X.K = K → ∀ (k : Nat) (pins : List (Addr × Obj)) (s : Shared) (σ : L2.St) (H : Hp) (E : Value → Shared → Prop), L2.Inv X pins σ H s → (∀ c ∈ fp, FpOk X pins H c) → at_ k s.heap → J.go k H →
    wpAny (model P w) X.A (pyNext (.ref it)) (fun r t => ∃ u, r = some u ∧ wpAny (model P w) X.A (letOwnedTupleGo tg (.ref it) u) (fun _ t' => ∃ x G, L2.Inv X pins σ G t' ∧ RelV x u ∧ J.yld k H x G ∧ at_ (k + 1) t'.heap ∧ ∀ c ∈ fp, G c = none) E t) E s
  done : ∀ (X : Cx), X.prog = P → X.w = w → X.K = K → HotF X → ∀ (k : Nat) (pins : List (Addr × Obj)) (s : Shared) (σ : L2.St) (H : Hp) (E : Value → Shared → Prop), L2.Inv X pins σ H s → (∀ c ∈ fp, FpOk X pins H c) → at_ k s.heap → J.stop k H →
    wpAny (model P w) X.A (pyNext (.ref it)) (fun r t => r = none ∧ L2.Inv X pins σ H t) E s
  self : ∀ (A : Around) (k : Nat) (s : Shared) (Q : Value → Shared → Prop) (E : Value → Shared → Prop), at_ k s.heap → Q (.ref it) s → wpAny (model P w) A (pyIter (.ref it)) Q E s
/-- an iterable -/
structure PIF (X : Cx) (tg iter : Expr) (wi : TI) : Prop where
  run : ∀ (pins : List (Addr × Obj)) (s : Shared) (σ : L2.St) (H : Hp) (R : L2.It → Hp → Prop), L2.Inv X pins σ H s → wi σ H R →
    wpAny (model X.prog X.w) X.A (eval iter X.env) (fun v t => wpAny (model X.prog X.w) X.A (pyIter v) (fun iv t' => ∃ (it : Addr) (fp : List Addr) (at_ : Nat → Heap → Prop) (J : L2.It) (G : Hp), iv = .ref it ∧ L2.Inv X pins σ G t' ∧ TurnF X.prog X.w X.K tg J fp it at_ ∧ at_ 0 t'.heap ∧ (∀ c ∈ fp, FpOk X pins G c) ∧ R J G) X.xe t) X.xe s
theorem PIF.imp {X : Cx} {tg it : Expr} {t t' : TI} (h : PIF X tg it t) (f : ∀ σ H Q, t' σ H Q → t σ H Q) : PIF X tg it t' := ⟨fun pins s σ H R I hw => h.run pins s σ H R I (f _ _ _ hw)⟩
section
variable {X : Cx} {W : WX} {tg e : Expr} {es : List Expr} {pos p : Pos} {me : EM} {ma : AM}
end
/-! ### [elt for target in iter if ..] there -/
section
variable {X : Cx} {W : WX} {tg e : Expr} {es : List Expr} {pos p : Pos} {me : EM} {ma : AM}
end
end Ag

/-! lambdas as cells of the store, called -/
namespace Ag
open PySem PySem.Spec PyProof.Rows L2
/-! ### a heap without some cells, and with them again -/
def less (H : Hp) (ls : List Addr) : Hp := fun b => if b ∈ ls then none else H b
def back (G H : Hp) (ls : List Addr) : Hp := fun b => if b ∈ ls then H b else G b
section
variable {G H : Hp} {ls : List Addr} {a : Addr} {u : HO}
theorem less_in (h : a ∈ ls) : less H ls a = none := if_pos h
theorem less_out (h : a ∉ ls) : less H ls a = H a := if_neg h
theorem less_some (h : less H ls a = some u) : a ∉ ls ∧ H a = some u := by
  by_cases z : a ∈ ls
  · rw [less_in z] at h; cases h
  · exact ⟨z, (less_out z).symm.trans h⟩
theorem less_none (h : H a = none) : less H ls a = none := by
  by_cases z : a ∈ ls
  · exact less_in z
  · rw [less_out z]; exact h
theorem back_in (h : a ∈ ls) : back G H ls a = H a := if_pos h
theorem back_out (h : a ∉ ls) : back G H ls a = G a := if_neg h
theorem back_up (hn : ∀ c ∈ ls, G c = none) (h : G a = some u) : back G H ls a = some u := by
  have z : a ∉ ls := fun z => by rw [hn a z] at h; cases h
  rw [back_out z]; exact h
end
/-- the addresses ls are cells of variables -/
def Cels (K : PySem.W.Frag) (H : Hp) (ls : List Addr) : Prop := ∀ c ∈ ls, (∃ o, H c = some (frzO c o)) ∧ ∀ xs, ¬ SqT K H c xs
section
variable {K : PySem.W.Frag} {m m2 : Mp} {H G : Hp} {S S2 S3 : Sto} {ls : List Addr}
theorem Cels.out (hl : Cels K H ls) {a : Addr} {u : HO} (h : H a = some u) (n : ∀ o, u ≠ frzO a o) : a ∉ ls := fun z => by
  obtain ⟨⟨o, e⟩, _⟩ := hl a z
  rw [h] at e
  exact n o (Option.some.inj e)
theorem Cels.keep (hl : Cels K H ls) {a : Addr} {u : HO} (h : H a = some u) (n : ∀ o, u ≠ frzO a o) : less H ls a = some u := by rw [less_out (hl.out h n)]; exact h
theorem SqT.less (hl : Cels K H ls) {a : Addr} {xs : List V} (h : SqT K H a xs) : SqT K (less H ls) a xs := by
  have z : a ∉ ls := fun z => (hl a z).2 xs h
  rcases h with (h | ⟨o, h⟩) | h
  · exact .inl (.inl (by rw [less_out z]; exact h))
  · exact .inl (.inr ⟨o, by rw [less_out z]; exact h⟩)
  · exact .inr h
mutual
theorem Rep.less (hl : Cels K H ls) : ∀ (d : D) (v : V), Rep K m H v d → Rep K m (less H ls) v d
  | .non, v, h => by cases h; exact .non
  | .bl b, v, h => by cases h; exact .bl b
  | .int b, v, h => by cases h; exact .int b
  | .str b, v, h => by cases h; exact .str b
  | .ty b, v, h => by cases h; exact .ty b
  | .gl b, v, h => by cases h; exact .gl b
  | .tup l, v, h => by
    cases h with
    | tup h1 hd h2 =>
      refine .tup (SqT.less hl h1) (fun z => ?_) (Reps.less hl l _ h2)
      obtain ⟨o, u, a, b⟩ := hd z
      exact ⟨o, u, by rw [less_out fun y => (hl _ y).2 _ h1]; exact a, b⟩
  | .lst l, v, h => by
    cases h with
    | lst h1 h2 h3 => exact .lst (hl.keep h1 fun _ => nofun) h2 (Reps.less hl l _ h3)
  | .scr l, v, h => by
    cases h with
    | scr h1 h2 =>
      refine .scr ?_ (Reps.less hl l _ h2)
      rcases h1 with ⟨o, h1⟩ | h1
      · refine .inl ⟨o, hl.keep h1 fun o' z => ?_⟩
        have z2 := (HO.frz.inj z).2
        cases z2
      · exact .inr h1
  | .ref i, v, h => by
    cases h with
    | ref h1 => exact .ref h1
  | .obj c ns l, v, h => by
    cases h with
    | obj h1 h2 h3 h4 => exact .obj (hl.keep h1 fun _ => nofun) h2 h3 (Reps.less hl l _ h4)
  | .dct l, v, h => by
    cases h with
    | dct h1 h2 h3 h4 => exact .dct (hl.keep h1 fun _ => nofun) h2 (DicR.less hl l _ h3) h4
theorem DicR.less (hl : Cels K H ls) : ∀ (l : List D) (xs : List (NestedKey × Addr × Value)), DicR K m H l xs → DicR K m (less H ls) l xs
  | [], xs, h => by cases h; exact .nil
  | [_], xs, h => by cases h
  | kd :: vd :: l, xs, h => by
    cases h with
    | cons a b c d r => exact .cons a (Rep.less hl kd _ b) c (Rep.less hl vd _ d) (DicR.less hl l _ r)
theorem Reps.less (hl : Cels K H ls) : ∀ (ds : List D) (vs : List V), Reps K m H vs ds → Reps K m (less H ls) vs ds
  | [], vs, h => by cases h; exact .nil
  | d :: ds, vs, h => by
    cases h with
    | cons h1 h2 => exact .cons (Rep.less hl d _ h1) (Reps.less hl ds _ h2)
end
theorem ExR.less (hl : Cels K H ls) {od : Option Addr} {fs : List (Str × D)} (h : ExR K m H od fs) : ExR K m (less H ls) od fs := by
  cases od with
  | none => exact h
  | some d =>
    obtain ⟨vs, h1, h2, h3, h4⟩ := h
    exact ⟨vs, hl.keep h1 (fun _ => nofun), h2, h3, Reps.less hl _ _ h4⟩
/-- lambdas out of sight -/
def hideO : Ob → Ob
  | .clo _ _ _ _ => .fz
  | o => o
def hideC (S : Sto) : Sto := S.map hideO
/-- .. and back -/
def showC : Sto → Sto → Option Sto
  | [], T => some T
  | .clo k L q ds :: S, .fz :: T => (showC S T).map (.clo k L q ds :: ·)
  | .clo _ _ _ _ :: _, _ => none
  | _ :: S, o :: T => (showC S T).map (o :: ·)
  | _ :: _, [] => none
theorem show_at : ∀ {S T U : Sto}, showC S T = some U → U.length = T.length ∧ ∀ (i : Nat) (o : Ob), U[i]? = some o → (S[i]? = some o ∧ ∃ k L q ds, o = .clo k L q ds) ∨ T[i]? = some o
  | [], T, U, h => by
    cases h
    exact ⟨rfl, fun i o z => .inr z⟩
  | s :: S, [], U, h => by cases s <;> cases h
  | s :: S, t :: T, U, h => by
    have go : ∀ o : Ob, (showC S T).map (o :: ·) = some U → ((s = o ∧ ∃ k L q ds, o = .clo k L q ds) ∨ t = o) → U.length = (t :: T).length ∧ ∀ (i : Nat) (o : Ob), U[i]? = some o → ((s :: S)[i]? = some o ∧ ∃ k L q ds, o = .clo k L q ds) ∨ (t :: T)[i]? = some o := fun o z w => by
      obtain ⟨V, z1, rfl⟩ := Option.map_eq_some_iff.mp z
      obtain ⟨h1, h2⟩ := show_at z1
      refine ⟨by simp [h1], fun i o' y => ?_⟩
      cases i with
      | zero =>
        have e : o = o' := by simpa using y
        subst e
        rcases w with ⟨w1, w2⟩ | w1
        · exact .inl ⟨by simp [w1], w2⟩
        · exact .inr (by simp [w1])
      | succ i => exact h2 i o' (by simpa using y)
    cases s with
    | clo k L q ds =>
      cases t with
      | fz => exact go _ h (.inl ⟨rfl, _, _, _, _, rfl⟩)
      | _ => cases h
    | lst _ => exact go t h (.inr rfl)
    | ins _ _ _ => exact go t h (.inr rfl)
    | dic _ => exact go t h (.inr rfl)
    | dik _ => exact go t h (.inr rfl)
    | tab _ _ => exact go t h (.inr rfl)
    | err _ _ => exact go t h (.inr rfl)
    | fz => exact go t h (.inr rfl)
theorem ObR.less (hl : Cels K H ls) {a : Addr} {o : Ob} (na : a ∉ ls) (h : ObR K m H a o) : ObR K m (less H ls) a (hideO o) := by
  have same : Ag.less H ls a = H a := less_out na
  cases o with
  | lst ds =>
    obtain ⟨vs, h1, h2⟩ := h
    exact ⟨vs, by rw [same]; exact h1, Reps.less hl _ _ h2⟩
  | ins c ns ds =>
    obtain ⟨dx, fs, h1, h2, h3⟩ := h
    exact ⟨dx, fs, by rw [same]; exact h1, h2, Reps.less hl _ _ h3⟩
  | dic l =>
    obtain ⟨o, xs, h1, h2, h3⟩ := h
    exact ⟨o, xs, by rw [same]; exact h1, DicR.less hl _ _ h2, h3⟩
  | dik l =>
    obtain ⟨kvs, h1, h2, h3⟩ := h
    exact ⟨kvs, by rw [same]; exact h1, h2, Reps.less hl _ _ h3⟩
  | tab P q =>
    obtain ⟨rfl, ps, h1, h2, h3⟩ := h
    exact ⟨rfl, ps, by rw [same]; exact h1, h2, fun pos cv hc => let ⟨c, e1, e2⟩ := h3 pos cv hc; ⟨c, e1, hl.keep e2 fun _ => nofun⟩⟩
  | err c fs =>
    obtain ⟨o, h1, h2, h3, h5, h4⟩ := h
    exact ⟨o, by rw [same]; exact h1, h2, h3, h5, h4.less hl⟩
  | clo k L q ds =>
    obtain ⟨d, pm, ctv, cl, l, h1, _⟩ := h
    exact ⟨PySem.W.kla_obj "<lambda>" q L.pr L.bd L.sc cl pm d ctv, by rw [same]; exact h1, fun v z => by cases z⟩
  | fz =>
    obtain ⟨o, h1, h2⟩ := h
    exact ⟨o, by rw [same]; exact h1, h2⟩
theorem Sim.less (s : Sim K m S H) (hl : Cels K H ls) (off : ∀ c ∈ ls, Off m c) : Sim K m (hideC S) (Ag.less H ls) := by
  have nc : ∀ a ∈ m.c, a ∉ ls := fun a ha z => (off a z).1 ha
  refine ⟨by simp [hideC, s.len], s.nd, fun i a o h1 h2 => ?_, fun a ha => ?_, s.dis⟩
  · unfold hideC at h2
    rw [List.getElem?_map] at h2
    cases q : S[i]? with
    | none => rw [q] at h2; cases h2
    | some o' =>
      rw [q] at h2
      cases h2
      exact (s.cell i a o' h1 q).less hl (nc a (List.mem_of_getElem? h1))
  · obtain ⟨o, h⟩ := s.hid a ha
    exact ⟨o, by rw [less_out fun z => (off a z).2 ha]; exact h⟩
theorem Ext.back (hl : Cels K H ls) (e : Ext m (less H ls) m2 G) (s2 : Sim K m2 S2 G) (hn : ∀ c ∈ ls, G c = none) : Ext m H m2 (back G H ls) := by
  obtain ⟨ex, e1, hx⟩ := e.pre
  have two : ∀ (a : Addr) (u : HO), H a = some u → (∀ u, Ag.less H ls a = some u → G a = some u) → Ag.back G H ls a = some u := fun a u h k => by
    by_cases z : a ∈ ls
    · rw [back_in z]; exact h
    · rw [back_out z]; exact k u (by rw [less_out z]; exact h)
  refine ⟨⟨ex, e1, fun a ha => ?_⟩, e.hs, fun a o h => ?_, fun a o h n => two a o h fun u q => e.keep a u q n, fun a xs h => ?_, fun a o u h => ?_, fun a q h => ?_⟩
  · have q := hx a ha
    by_cases z : a ∈ ls
    · obtain ⟨o, y, _⟩ := s2.trk (a := a) (by rw [e1]; exact List.mem_append_right _ ha)
      rw [hn a z] at y; cases y
    · rw [less_out z] at q; exact q
  · by_cases z : a ∈ ls
    · exact ⟨o, by rw [back_in z]; exact h⟩
    · obtain ⟨o', q⟩ := e.trk a o (by rw [less_out z]; exact h)
      exact ⟨o', by rw [back_out z]; exact q⟩
  · exact back_up hn (e.tup a xs (hl.keep h fun _ => nofun))
  · by_cases z : a ∈ ls
    · rw [back_in z]; exact h
    · rw [back_out z]; exact e.frz a o u (by rw [less_out z]; exact h)
  · exact back_up hn (e.cod a q (hl.keep h fun _ => nofun))
theorem Sim.back (hl : Cels K H ls) (s : Sim K m S H) (e : Ext m (Ag.less H ls) m2 G) (s2 : Sim K m2 S2 G) (hn : ∀ c ∈ ls, G c = none) (h : showC S S2 = some S3) : Sim K m2 S3 (Ag.back G H ls) := by
  obtain ⟨h1, h2⟩ := show_at h
  have up := s2.all (H' := Ag.back G H ls) fun b o => back_up hn
  have e3 := Ext.back hl e s2 hn
  refine ⟨by rw [h1]; exact up.len, up.nd, fun i a o q1 q2 => ?_, up.hid, up.dis⟩
  rcases h2 i o q2 with ⟨y, k, L, q, ds, rfl⟩ | y
  · have ia : m.c[i]? = some a := by
      obtain ⟨ex, e1, _⟩ := e3.pre
      have li : i < m.c.length := by rw [s.len]; exact (List.getElem?_eq_some_iff.mp y).1
      rw [e1, List.getElem?_append_left li] at q1
      exact q1
    have c := s.cell i a _ ia y
    obtain ⟨d, pm, ctv, cl, l, c1, _⟩ := id c
    exact c.tr e3.tr ((e3.frz a _ _ c1).trans c1.symm)
  · exact up.cell i a o q1 y
end
section
variable {P : Program} {w : World} {outer : List Env} {H : Hp} {s s' : Shared} {ls : List Addr} {Q : VK} {E : XK} {K : PySem.W.Frag}
/-- what is asked of the cells left out -/
structure LessOk (K : PySem.W.Frag) (P : Program) (w : World) (outer : List Env) (H : Hp) (s : Shared) (ls : List Addr) : Prop where
  cel : Cels K H ls
  hok : HOk P w H s.heap
  nf : ∀ b ∈ frs outer, H b = none
theorem LessOk.get (L : LessOk K P w outer H s ls) {c : Addr} (hc : c ∈ ls) : ∃ o, H c = some (frzO c o) ∧ s.heap.get? c = some o ∧ c ∉ frs outer := by
  obtain ⟨⟨o, h⟩, _⟩ := L.cel c hc
  exact ⟨o, h, (L.hok c _ h).1, fun z => by rw [L.nf c z] at h; cases h⟩
theorem hok_less {h : Heap} (hl : Cels K H ls) (x : HOk P w H h) : HOk P w (less H ls) h := fun b u q => by
  obtain ⟨_, q⟩ := less_some q
  exact (x b u q).stay (fun _ _ _ z => z) (fun c z => hl.keep z fun _ => nofun) fun c xs z => hl.keep z fun _ => nofun
theorem un_back {G : Hp} {h' : Heap} (L : LessOk K P w outer H s ls) (u : Un (frs outer) [] (less H ls) G s.heap h') : (∀ c ∈ ls, G c = none) ∧ Un (frs outer) [] H (back G H ls) s.heap h' := by
  have hn : ∀ c ∈ ls, G c = none := fun c hc => by
    obtain ⟨o, _, q, _⟩ := L.get hc
    exact u.free c o q (less_in hc) (by simp)
  have no : ∀ {b : Addr}, H b = none → b ∉ ls := fun {b} n z => by
    obtain ⟨o, q, _⟩ := L.get z
    rw [n] at q; cases q
  refine ⟨hn, ⟨fun b o e n => u.keep b o e (less_none n), fun b o e n => u.slot b o e (less_none n), fun b o e n hx => ?_, u.there, fun b xs q => back_up hn (u.tups b xs (L.cel.keep q fun _ => nofun)), fun b o x q => ?_, fun b ps q => ?_⟩⟩
  · rw [back_out (no n)]; exact u.free b o e (less_none n) hx
  · by_cases z : b ∈ ls
    · rw [back_in z]; exact q
    · rw [back_out z]; exact u.frzs b o x (by rw [less_out z]; exact q)
  · obtain ⟨more, y⟩ := u.tbls b ps (L.cel.keep q fun _ => nofun)
    exact ⟨more, back_up hn y⟩
theorem hok_back {G : Hp} {h' : Heap} (L : LessOk K P w outer H s ls) (hn : ∀ c ∈ ls, G c = none) (x : HOk P w G h') (st : ∀ c ∈ ls, ∀ o, s.heap.get? c = some o → h'.get? c = some o) : HOk P w (back G H ls) h' := fun b u q => by
  by_cases z : b ∈ ls
  · rw [back_in z] at q
    obtain ⟨o, y, g, _⟩ := L.get z
    rw [y] at q
    cases q
    exact ⟨st b z o g, erO_ok (st b z o g)⟩
  · rw [back_out z] at q
    exact (x b u q).stay (fun _ _ _ y => y) (fun c y => back_up hn y) fun c xs y => back_up hn y
theorem CE.back {v : Value} (L : LessOk K P w outer H s ls) (h : CE outer P w (less H ls) s (fun x G => (∀ c ∈ ls, G c = none) → Q x (back G H ls)) v s') : CE outer P w H s Q v s' := by
  obtain ⟨x, G, os, bare, un, hok, rv, q⟩ := h
  obtain ⟨hn, un2⟩ := un_back L un
  refine ⟨x, _, os, bare, un2, hok_back L hn hok fun c hc o g => ?_, rv, q hn⟩
  obtain ⟨_, _, _, nf⟩ := L.get hc
  exact un.keep c o g (less_in hc) nf (by simp)
theorem CX.back {v : Value} (L : LessOk K P w outer H s ls) (h : L2N.CX P w outer (less H ls) s (fun c od G => (∀ c ∈ ls, G c = none) → E c od (back G H ls)) v s') : L2N.CX P w outer H s E v s' := by
  obtain ⟨a, B, G, cls, d, rfl, fl, hok, ub, na, os, bare, q⟩ := h
  have stay : ∀ c ∈ ls, ∀ o, s.heap.get? c = some o → B.get? c = some o := fun c hc o g => by
    obtain ⟨_, _, _, nf⟩ := L.get hc
    exact ub.keep c o g (less_in hc) nf
  have hn : ∀ c ∈ ls, G c = none := fun c hc => by
    obtain ⟨o, _, g, _⟩ := L.get hc
    exact ub.free c o g (less_in hc)
  have no : ∀ {b : Addr}, H b = none → b ∉ ls := fun {b} n z => by
    obtain ⟨o, q, _⟩ := L.get z
    rw [n] at q; cases q
  have fresh : B.get? a = none := fl.2.1
  refine ⟨a, B, _, cls, d, rfl, fl, hok_back L hn hok stay, ⟨fun b o e n => ub.keep b o e (less_none n), ub.slot, fun b o e n => ?_, ub.there, fun b xs z => back_up hn (ub.tups b xs (L.cel.keep z fun _ => nofun)), fun b o x z => ?_, fun b ps z => ?_⟩, ?_, os, bare, q hn⟩
  · rw [back_out (no n)]; exact ub.free b o e (less_none n)
  · by_cases y : b ∈ ls
    · rw [back_in y]; exact z
    · rw [back_out y]; exact ub.frzs b o x (by rw [less_out y]; exact z)
  · obtain ⟨more, y⟩ := ub.tbls b ps (L.cel.keep z fun _ => nofun)
    exact ⟨more, back_up hn y⟩
  · have z : a ∉ ls := fun z => by
      obtain ⟨o, _, g, _⟩ := L.get z
      have y := stay a z o g
      rw [fresh] at y; cases y
    rw [back_out z]; exact na
end
end Ag

/-! a lambda that stands in the store, called -/
namespace Ag
open PySem PySem.Spec PyProof.Rows L2
def unhide (S : Sto) (r : Res D) : Res D := match r with
  | .ok d T => (match showC S T with
    | some U => .ok d U
    | none => .stuck)
  | .exc c fs T => (match showC S T with
    | some U => .exc c fs U
    | none => .stuck)
  | .stuck => .stuck
open Classical in
/-- the lambda at j; tb: the lambdas of the law -/
noncomputable def cloCall (tb : List (LSyn × Str × EM)) (j : Nat) (S : Sto) : Res D := match S[j]? with
  | some (.clo k L q ds) => (match tb[k]? with
    | some t => if t.1 = L ∧ t.2.1 = q then unhide S (t.2.2 (ds.map some) (hideC S)) else .stuck
    | none => .stuck)
  | _ => .stuck
section
variable {K : PySem.W.Frag} {W : WX} {E : XK} {m : Mp} {H : Hp} {S : Sto} {ls : List Addr} {r : Res D} {Q : VK} {σ : L2.St}
end
end Ag

/-! lists of lambdas of a frame that still runs -/
namespace Ag
open PySem PySem.Spec PyProof.Rows L2
/-- a lambda of this frame, at f -/
def Made (X : Cx) (q : Str) (H : Hp) (f : Addr) (L : LSyn) : Prop := ∃ (d : Addr) (pm ctv : Value), H f = some (frzO f (PySem.W.kla_obj "<lambda>" q L.pr L.bd L.sc (cloFrom X.env.cells L.sc.names []) pm d ctv)) ∧ H d = some (LamX.CodeO d q)
theorem Made.to {X : Cx} {q : Str} {m m' : Mp} {H H' : Hp} {f : Addr} {L : LSyn} (h : Made X q H f L) (e : Ext m H m' H') : Made X q H' f L := by
  obtain ⟨d, pm, ctv, h1, h2⟩ := h
  exact ⟨d, pm, ctv, e.frz _ _ _ h1, e.cod _ _ h2⟩
theorem made_to {X : Cx} {q : Str} {m m' : Mp} {H H' : Hp} (e : Ext m H m' H') : ∀ {fs : List Addr} {Ls : List LSyn}, Paired (Made X q H) fs Ls → Paired (Made X q H') fs Ls
  | _, _, .nil => .nil
  | _, _, .cons h t => .cons (h.to e) (made_to e t)
section
variable {X : Cx} {pins : List (Addr × Obj)} {σ : L2.St} {H : Hp} {s : Shared} {a : Addr} {o : Obj}
end
/-! ### a lambda made -/
/-- the frame's lambdas stand in a list at a; they and it are hidden; m0, H0: ahead of them -/
structure LiveL (X : Cx) (q : Str) (i : Nat) (Ls : List LSyn) (σ : L2.St) (H : Hp) (m0 : Mp) (H0 : Hp) (m : Mp) (a : Addr) (fs : List Addr) : Prop where
  var : σ[i]? = some (some (.ref a))
  lst : H a = some (.lst (fs.map V.ref))
  made : Paired (Made X q H) fs Ls
  hid : m.h = a :: (fs ++ m0.h)
  nd : (a :: fs).Nodup
  new : ∀ b ∈ a :: fs, H0 b = none
  off : ∀ b ∈ a :: fs, b ∉ m0.h
  ext : Ext m0 H0 ⟨m.c, m0.h⟩ H
/-- the hidden are left alone -/
theorem Sim.unhide {K : PySem.W.Frag} {m : Mp} {H : Hp} {S : Sto} {h : List Addr} (s : Sim K m S H) (sub : ∀ a ∈ h, a ∈ m.h) : Sim K ⟨m.c, h⟩ S H :=
  s.same rfl ⟨⟨[], by simp, by simp⟩, fun a ha => .inl (sub a ha), fun _ _ z _ => z, fun _ _ z => z, fun _ _ _ z => z, fun _ _ z => z⟩ (fun _ _ => rfl) (fun a ha => s.hid a (sub a ha)) fun a ha z => s.dis a ha (sub a z)
theorem Tr.unhide {m : Mp} {H : Hp} {h : List Addr} (sub : ∀ a ∈ h, a ∈ m.h) : Tr m H ⟨m.c, h⟩ H := ⟨⟨[], by simp, by simp⟩, fun a ha => .inl (sub a ha), fun _ _ z _ => z, fun _ _ z => z, fun _ _ _ z => z, fun _ _ z => z⟩
section
variable {X : Cx} {W : WX} {i iT : Nat} {q y : Str} {c P : Addr} {L : LSyn} {Ls : List LSyn} {st : Stmt} {rest : List Stmt} {sM : SM} {p1 p2 p3 p4 p5 p6 : Pos}
end
/-! ### tests and statements with such a list -/
section
variable {X : Cx} {W : WX} {i : Nat} {q : Str} {Ls : List LSyn} {e a b c : Expr} {es : List Expr} {st : Stmt} {rest sa sb : List Stmt} {me : EM} {t u : BM} {s1 s2 : SM} {pos : Pos}
end
/-! ### the call of a def with such a list -/
def capAll (q : Str) (en : En) : List (Nat × LSyn) → Option (List Ob)
  | [] => some []
  | c :: cs => match capD en c.2.cp, capAll q en cs with
    | some ds, some r => some (.clo c.1 c.2 q ds :: r)
    | _, _ => none
def shown (S : Sto) (r : Res D) : Res D := match r with
  | .ok d T => (match showC S (hideC T) with
    | some U => .ok d U
    | none => .stuck)
  | .exc c fs T => (match showC S (hideC T) with
    | some U => .exc c fs U
    | none => .stuck)
  | .stuck => .stuck
/-- the frame's list of lambdas, wherever it is named -/
structure LiveC (X : Cx) (q : Str) (Ls : List LSyn) (H : Hp) (m0 : Mp) (H0 : Hp) (m : Mp) (a : Addr) (fs : List Addr) : Prop where
  lst : H a = some (.lst (fs.map V.ref))
  made : Paired (Made X q H) fs Ls
  hid : m.h = a :: (fs ++ m0.h)
  nd : (a :: fs).Nodup
  new : ∀ b ∈ a :: fs, H0 b = none
  off : ∀ b ∈ a :: fs, b ∉ m0.h
  ext : Ext m0 H0 ⟨m.c, m0.h⟩ H
theorem LiveL.c {X : Cx} {q : Str} {i : Nat} {Ls : List LSyn} {σ : L2.St} {H : Hp} {m0 : Mp} {H0 : Hp} {m : Mp} {a : Addr} {fs : List Addr} (l : LiveL X q i Ls σ H m0 H0 m a fs) : LiveC X q Ls H m0 H0 m a fs := ⟨l.lst, l.made, l.hid, l.nd, l.new, l.off, l.ext⟩
theorem LiveC.to {X : Cx} {q : Str} {Ls : List LSyn} {S : Sto} {H H' : Hp} {m0 : Mp} {H0 : Hp} {m m' : Mp} {a : Addr} {fs : List Addr} (l : LiveC X q Ls H m0 H0 m a fs) (si : Sim X.K m S H) (e : Ext m H m' H') : LiveC X q Ls H' m0 H0 m' a fs := by
  have ha : a ∉ m.c := fun z => si.dis a z (by rw [l.hid]; exact List.mem_cons_self)
  exact ⟨e.keep _ _ l.lst ha, made_to e l.made, e.hs.trans l.hid, l.nd, l.new, l.off, l.ext.trans ⟨e.pre, rfl, e.trk, e.keep, e.tup, e.frz, e.cod⟩⟩
/-- the variables that a frame's lambda holds -/
structure CapC (X : Cx) (H : Hp) (s : Shared) (L : LSyn) (l : List CelV) : Prop where
  cv : CloV L.ys (cloFrom X.env.cells L.sc.names []) l
  own : ∀ p ∈ l, s.heap.get? p.c = some p.o ∧ ∃ y, X.env.cells.lookup y = some p.c
/-- the heap with the cells of variables told -/
def moreH (H : Hp) (s : Shared) (ls : List Addr) : Hp := fun b => if b ∈ ls then (s.heap.get? b).map (frzO b) else H b
section
variable {P : Program} {w : World} {outer : List Env} {H G : Hp} {s s' : Shared} {ls : List Addr} {Q : VK} {E : XK} {K : PySem.W.Frag}
/-- cells that are told for a call alone -/
structure MoreOk (K : PySem.W.Frag) (P : Program) (w : World) (outer : List Env) (H : Hp) (s : Shared) (ls : List Addr) : Prop where
  cel : ∀ c ∈ ls, ∃ o u, s.heap.get? c = some o ∧ o.data = .cell (some u) ∧ H c = none ∧ c ∉ frs outer
  nosq : ∀ c ∈ ls, ∀ G xs, ¬ (G c = none ∨ ∃ o, G c = some (frzO c o)) ∨ ¬ SqT K G c xs
  hok : HOk P w H s.heap
theorem MoreOk.in_ (M : MoreOk K P w outer H s ls) {c : Addr} (hc : c ∈ ls) : ∃ o, moreH H s ls c = some (frzO c o) ∧ s.heap.get? c = some o := by
  obtain ⟨o, u, h1, _⟩ := M.cel c hc
  exact ⟨o, by unfold moreH; rw [if_pos hc, h1]; rfl, h1⟩
theorem MoreOk.out (M : MoreOk K P w outer H s ls) {b : Addr} (hb : b ∉ ls) : moreH H s ls b = H b := if_neg hb
theorem MoreOk.up (M : MoreOk K P w outer H s ls) {b : Addr} {u : HO} (h : H b = some u) : b ∉ ls ∧ moreH H s ls b = some u := by
  have z : b ∉ ls := fun z => by
    obtain ⟨_, _, _, _, n, _⟩ := M.cel b z
    rw [h] at n; cases n
  exact ⟨z, by rw [M.out z]; exact h⟩
theorem MoreOk.cels (M : MoreOk K P w outer H s ls) (st : ∀ c ∈ ls, G c = moreH H s ls c) : Cels K G ls := fun c hc => by
  obtain ⟨o, q, _⟩ := M.in_ hc
  have e := (st c hc).trans q
  refine ⟨⟨o, e⟩, fun xs sq => ?_⟩
  rcases M.nosq c hc G xs with z | z
  · exact z (.inr ⟨o, e⟩)
  · exact z sq
theorem CE.drop {v : Value} (M : MoreOk K P w outer H s ls) (h : CE outer P w (moreH H s ls) s (fun x G => (∀ c ∈ ls, G c = moreH H s ls c) → Q x (less G ls)) v s') : CE outer P w H s Q v s' := by
  obtain ⟨x, G, os, bare, un, hok, rv, q⟩ := h
  have st : ∀ c ∈ ls, G c = moreH H s ls c := fun c hc => by
    obtain ⟨o, y, _⟩ := M.in_ hc
    rw [y]; exact un.frzs c _ _ y
  have stay : ∀ c ∈ ls, ∀ o, s.heap.get? c = some o → s'.heap.get? c = some o := fun c hc o g => by
    obtain ⟨o', y, g'⟩ := M.in_ hc
    rw [g] at g'; cases g'
    exact (hok c _ ((st c hc).trans y)).1
  have hl := M.cels st
  refine ⟨x, less G ls, os, bare, ⟨fun b o e n hb hx => ?_, fun b o e n hb hx => ?_, fun b o e n hx => ?_, un.there, fun b xs y => ?_, fun b o u y => ?_, fun b ps y => ?_⟩, hok_less hl hok, rv, q st⟩
  · by_cases z : b ∈ ls
    · exact stay b z o e
    · exact un.keep b o e (by rw [M.out z]; exact n) hb hx
  · by_cases z : b ∈ ls
    · obtain ⟨_, _, _, _, _, nf⟩ := M.cel b z
      exact absurd hb nf
    · exact un.slot b o e (by rw [M.out z]; exact n) hb hx
  · by_cases z : b ∈ ls
    · exact less_in z
    · exact less_none (un.free b o e (by rw [M.out z]; exact n) hx)
  · obtain ⟨z, y2⟩ := M.up y
    rw [less_out z]; exact un.tups b xs y2
  · obtain ⟨z, y2⟩ := M.up y
    rw [less_out z]; exact un.frzs b o u y2
  · obtain ⟨z, y2⟩ := M.up y
    obtain ⟨more, y3⟩ := un.tbls b ps y2
    exact ⟨more, by rw [less_out z]; exact y3⟩
theorem CX.drop {v : Value} (M : MoreOk K P w outer H s ls) (h : L2N.CX P w outer (moreH H s ls) s (fun c od G => (∀ c ∈ ls, G c = moreH H s ls c) → E c od (less G ls)) v s') : L2N.CX P w outer H s E v s' := by
  obtain ⟨a, B, G, cls, d, rfl, fl, hok, ub, na, os, bare, q⟩ := h
  have st : ∀ c ∈ ls, G c = moreH H s ls c := fun c hc => by
    obtain ⟨o, y, _⟩ := M.in_ hc
    rw [y]; exact ub.frzs c _ _ y
  have stay : ∀ c ∈ ls, ∀ o, s.heap.get? c = some o → B.get? c = some o := fun c hc o g => by
    obtain ⟨o', y, g'⟩ := M.in_ hc
    rw [g] at g'; cases g'
    exact (hok c _ ((st c hc).trans y)).1
  have hl := M.cels st
  refine ⟨a, B, less G ls, cls, d, rfl, fl, hok_less hl hok, ⟨fun b o e n hb => ?_, fun b o e hb => ub.slot b o e hb, fun b o e n => ?_, ub.there, fun b xs y => ?_, fun b o u y => ?_, fun b ps y => ?_⟩, less_none na, os, bare, q st⟩
  · by_cases z : b ∈ ls
    · exact stay b z o e
    · exact ub.keep b o e (by rw [M.out z]; exact n) hb
  · by_cases z : b ∈ ls
    · exact less_in z
    · exact less_none (ub.free b o e (by rw [M.out z]; exact n))
  · obtain ⟨z, y2⟩ := M.up y
    rw [less_out z]; exact ub.tups b xs y2
  · obtain ⟨z, y2⟩ := M.up y
    rw [less_out z]; exact ub.frzs b o u y2
  · obtain ⟨z, y2⟩ := M.up y
    obtain ⟨more, y3⟩ := ub.tbls b ps y2
    exact ⟨more, by rw [less_out z]; exact y3⟩
end
end Ag

/-! a def called with lambdas of a frame that still runs -/
namespace Ag
open PySem PySem.Spec PyProof.Rows L2
section
variable {X : Cx} {W : WX} {pins : List (Addr × Obj)} {σ : L2.St} {H : Hp} {s : Shared} {q : Str} {cs : List (Nat × LSyn)} {m0 m : Mp} {H0 : Hp} {a : Addr} {fs : List Addr} {S : Sto} {en : En} {ls : List Addr} {cl : List Ob}
end
/-! ### x(acts, due); tests and statements -/
section
variable {X : Cx} {W : WX} {i j k : Nat} {q x y : Str} {cs : List (Nat × LSyn)} {Ls : List LSyn} {f : Addr} {fd : FuncData} {ps : List Str} {fm : List D → Sto → Res D} {e a b c : Expr} {es : List Expr} {st : Stmt} {rest sa sb : List Stmt} {me : EM} {t u : BM} {s1 s2 : SM} {p p1 pos : Pos}
end
end Ag

/-! x([lambda: ..], due); defs that give lambdas back -/
namespace Ag
open PySem PySem.Spec PyProof.Rows L2
section
variable {X : Cx} {W : WX} {iT j k : Nat} {q x : Str} {c : Nat × LSyn} {f cA P : Addr} {fd : FuncData} {ps : List Str} {fm : List D → Sto → Res D} {e : Expr} {me : EM} {p p1 p2 pos : Pos}
end
end Ag

/-! defs that give lambdas back -/
namespace Ag
open PySem PySem.Spec PyProof.Rows L2
/-- what such a def gives: a value with a lambda behind it, or a list of lambdas -/
inductive MRes where
  | pair (d : D) (c : Nat × LSyn) (ob : Ob) (S : Sto) | lst (cs : List (Nat × LSyn)) (cl : List Ob) (S : Sto) | stuck
def GoalC (X : Cx) (q : Str) (m0 : Mp) (H0 : Hp) (r : MRes) (R : Flow → Shared → Prop) : Prop := match r with
  | .lst cs cl S => ∀ σ en m H s a fs, Inv X [] σ H s → EnvR X.K m H σ en → Sim X.K m S H → LiveC X q (cs.map (·.2)) H m0 H0 m a fs → capAll q en cs = some cl → (∀ c ∈ cs, LOk X.N X.env.scope c.2) → R (.ret (.ref a)) s
  | .pair d c ob S => ∀ σ en m H s a f t v, Inv X [] σ H s → EnvR X.K m H σ en → Sim X.K m S H → Made X q H f c.2 → m.h = f :: m0.h → f ∉ m0.h → H0 f = none → Ext m0 H0 ⟨m.c, m0.h⟩ H → capAll q en [c] = some [ob] → Rep X.K m H v d → H a = some (.frz t (.tup [v, .ref f])) → LOk X.N X.env.scope c.2 → R (.ret (.ref a)) s
  | .stuck => False
theorem GoalC.to {X : Cx} {q : Str} {m0 m1 : Mp} {H0 H1 : Hp} {S1 : Sto} {r : MRes} {R : Flow → Shared → Prop} (h : GoalC X q m0 H0 r R) (e : Ext m0 H0 m1 H1) : GoalC X q m1 H1 r R := by
  have back : ∀ {b : Addr}, H1 b = none → H0 b = none := fun {b} n => by
    cases y : H0 b with
    | none => rfl
    | some u =>
      obtain ⟨u2, y2⟩ := e.trk b u y
      rw [n] at y2; cases y2
  have ex : ∀ {c : List Addr} {H : Hp}, Ext m1 H1 ⟨c, m1.h⟩ H → Ext m0 H0 ⟨c, m0.h⟩ H := fun {c H} x => by
    have z := e.trans x
    rw [e.hs] at z
    exact z
  cases r with
  | lst cs cl S => exact fun σ en m H s a fs I er si lv ca ok => h σ en m H s a fs I er si ⟨lv.lst, lv.made, by rw [lv.hid, e.hs], lv.nd, fun b hb => back (lv.new b hb), fun b hb => by rw [← e.hs]; exact lv.off b hb, ex lv.ext⟩ ca ok
  | pair d c ob S => exact fun σ en m H s a f t v I er si md hh ho hn x ca rv at_ ok => h σ en m H s a f t v I er si md (by rw [hh, e.hs]) (by rw [← e.hs]; exact ho) (back hn) (ex x) ca rv at_ ok
  | stuck => exact h
section
variable {X : Cx} {W : WX} {q y : Str} {st : Stmt} {rest body : List Stmt} {mm mt : En → Sto → MRes} {sM : SM} {bm : BM} {c : Expr} {pos : Pos}
end
/-! return e, lambda: .. -/
section
variable {X : Cx} {W : WX} {q : Str} {e : Expr} {me : EM} {c : Nat × LSyn} {iT kk : Nat} {cA P : Addr} {p1 p2 pos : Pos}
end
/-! acts = [lambda: ..]; acts.append(lambda: ..); ..; return acts -/
section
variable {X : Cx} {q y : Str} {st : Stmt} {rest : List Stmt} {mm : En → Sto → MRes} {i iT : Nat} {P : Addr} {c : Nat × LSyn} {cs cs' : List (Nat × LSyn)} {p1 pos : Pos}
end
/-! ### the def -/
section
variable {P : Program} {w : World} {K : PySem.W.Frag} {mg : Str → Option Value} {base : Heap} {x qual q : Str} {params : Arguments} {body : List Stmt} {scope : Scope} {kws : List (Str × V)} {f c : Addr} {fd : FuncData}
end
end Ag

/-! where a lambda stands in a program; small words for the generator -/
namespace Ag
open PySem PySem.Spec PyProof.Rows L2
section
variable {X : Cx}
end
/-! a text split into a list that changes -/
section
variable {X : Cx} {W : WX}
end
/-! try: .. except (A, B, C, D): return word -/
section
variable {X : Cx} {W : WX} {b : SM} {cs : List Str}
end
end Ag

/-! ### C(f=e): the base class's making leaves the words alone -/
namespace Ag
open PySem PySem.HandSPX PySem.Builtin PySem.Builtin.ObjectAttr
section
variable {M : Model} {A : Around} {E : Value → Shared → Prop} {h : Heap} {gs : Array GenState} {dr : Drawn} {tk : Nat} {oz : OsState}
variable {nm qn : Str} {C N : Addr} {bs bm bmB : List Value} {hd : Bool} {sn : List Str} {su : List Value} {ab : Bool} {co : Option Bool} {di : Option Addr} {k0 k1 k2 k3 k5 : Option Value} {B nI iI : String} {kw : List (Str × Value)}
end
section
variable {P : Program} {wd : World} {A : Around} {E : Value → Shared → Prop} {R : Result → Shared → Prop} {h : Heap} {gs : Array GenState} {dr : Drawn} {tk : Nat} {oz : OsState}
variable {nm qn : Str} {C N : Addr} {bs bm bmB : List Value} {hd : Bool} {sn : List Str} {su : List Value} {ab : Bool} {co : Option Bool} {di : Option Addr} {k0 k1 k2 k3 k5 : Option Value} {B nI iI : String} {kw : List (Str × Value)}
end
end Ag
/-! errors made as values: C(e), cells of the store -/
namespace Ag
open PySem PySem.Spec PyProof.Rows L2
section
variable {K : PySem.W.Frag} {m : Mp} {H : Hp} {S : Sto} {a : Addr} {o : Obj} {c : Str} {fs : List (Str × D)} {od : Option Addr}
theorem made (si : Sim K m S H) (x : ExR K m H od fs) (na : H a = none) (hc : o.cls = .ref (He.ga K c)) (hd : o.dict = od) (hv : ∃ vs, o.data = .fields vs) (hx : PXN.CtxN o) :
    Ext m H (m.add a) (upd H a (.frz o (ErO a o))) ∧ Rep K (m.add a) (upd H a (.frz o (ErO a o))) (.ref a) (.ref S.length) ∧ Sim K (m.add a) (S ++ [.err c fs]) (upd H a (.frz o (ErO a o))) := by
  have e : Ext m H (m.add a) (upd H a (.frz o (ErO a o))) := .cell na
  exact ⟨e, .ref (si.last a), si.grow na ⟨o, upd_same, hc, hv, hx, by rw [hd]; exact x.tr e.tr⟩⟩
end
section
variable {X : Cx} {W : WX} {e : Expr} {ma : EM} {j : Nat} {c f : Str} {b ni : String}
end
section
variable {X : Cx} {W : WX} {e : Expr} {ma : EM} {j : Nat} {c f : Str} {b ni : String}
end
section
variable {X : Cx} {W : WX} {ma : EM} {mr : AM} {j : Nat} {c f : Str} {b ni : String}
end
/-! repr of {'a': 1} -/
section
variable {c f : Str} {ma : EM} {en : En} {S : Sto} {P : D → Sto → Prop}
end
end Ag

namespace Ag
open PySem PySem.Spec PyProof.Rows L2
/-! try: .. except C: return word, with further clauses behind -/
section
variable {X : Cx} {W : WX} {b : SM} {c : Str}
end
end Ag

/-! x(lambda a=e: body): a lambda with one default -/
namespace Ag
open PySem PySem.Spec PyProof.Rows L2
section
variable {M : Model} {A : Around} {E : Value → Shared → Prop} {s : Shared} {q : Str} {params : Arguments} {body : Expr} {scope : Scope} {env : Env} {c P : Addr} {ps : Array Value} {pos : Pos} {fl : Nat} {mg : Str → Option Value} {cl : List (Str × Addr)} {dv : Value} {Q : Value → Shared → Prop}
end
section
variable {X : Cx} {pins : List (Addr × Obj)} {σ : L2.St} {H : Hp} {s : Shared}
end
/-- captured names, globals, and names of its own that the maker has not -/
structure LamO (N : List Str) (sc scope : Scope) : Prop where
  fun_ : scope.kind = .function
  co : scope.isCoroutine = false
  gen : scope.isGenerator = false
  nocell : ∀ y ∈ scope.names, y.2 ≠ .cell
  own : ∀ y ∈ scope.names, y.2 = .local → y.1 ∉ N
  free : ∀ y ∈ scope.names, y.2 = .free → sc.names.lookup y.1 = some .cell ∨ sc.names.lookup y.1 = some .free
theorem LamO.has {X : Cx} {N : List Str} {scope : Scope} (L : LamO N X.env.scope scope) (ok : X.Ok) : ∀ y ∈ scope.names, y.2 = .free → ∃ c, X.env.cells.lookup y.1 = some c := fun y hy e => ok.has _ (L.free y hy e)
section
variable {X : Cx} {pins : List (Addr × Obj)} {σ : L2.St} {H HZ : Hp} {s s1 : Shared}
end
/-! a tuple taken no time -/
section
variable {X : Cx} {W : WX}
end
end Ag

/-! functions as values: f(..) where f is one of some defs -/
namespace Ag
open PySem PySem.Spec PyProof.Rows L2
/-- a def that may be called by its value -/
structure FnV (P : Program) (w : World) (K : PySem.W.Frag) (mg : Str → Option Value) (base : Heap) (k n : Nat) (x : Str) (fm : List D → Sto → Res D) : Prop where
  ex : ∃ kk fd ps, kk ≤ k ∧ FnG P w K mg base kk (He.ga K x) fd ps (spOf K n fm) ∧ PySem.W.keepIn K (.ref (He.ga K x)) = true ∧ Binds K fd ps []
end Ag

/-! sorted(xs, key=lambda y: (len(y), y)) of tuples of ints -/
namespace Ag
open PySem PySem.Spec PyProof.Rows L2 PySem.W
section
variable {prog : Program} {w : World} {A : Around} {g : Heap} {s : Shared} {f t d : Addr} {y : Str} {its : Array Value} {xs : List Int}
end
section
variable {X : Cx} {W : WX} {e : Expr} {ma : EM} {y : Str} {i j jj : Nat} {c P : Addr} {q : Str} {params : Arguments} {scope : Scope} {p p1 p2 p3 p4 p5 pos lpos kp : Pos}
end
/-! min of a list of pairs of ints -/
section
variable {X : Cx}
end
end Ag

/-! x = constant / try: a() / except (A, B, C) as e: su, then rest -/
namespace Ag
open PySem PySem.Spec PyProof.Rows L2
section
variable {P : Program} {w : World} {K : PySem.W.Frag} {mg : Str → Option Value} {base : Heap} {N : List Str} {x : Str} {sg : Scope} {g : Addr} {cdg : Value} {a : Str} {k : Nat}
end
end Ag

/-! list.insert -/
namespace Ag
open PySem PySem.Spec PyProof.Rows L2
section
variable {X : Cx}
end
end Ag

/-! a comprehension whose element is a call that may raise -/
namespace Ag
open PySem PySem.Spec PyProof.Rows L2
/-- an expression that succeeds, or lets a callee's error out -/
structure PEX (X : Cx) (e : Expr) (t : TE) (Er : XK) : Prop where
  run : ∀ (pins : List (Addr × Obj)) (s : Shared) (σ : L2.St) (H : Hp) (Q : VK), L2.Inv X pins σ H s → t σ H Q →
    wpAny (model X.prog X.w) X.A (eval e X.env) (EP X pins σ Q) (fun u s' => ∃ s1 H1 p1, L2.Inv X p1 σ H1 s1 ∧ L2N.CX X.prog X.w X.stack H1 s1 Er u s') s
/-! ### [elt for target in iter if ..], the element a call that may raise -/
/-! ### its mirror -/
section
variable {X : Cx} {W : WX}
end
/-! ### {} == (): never the same -/
section
open PySem.SeqAt PySem.MeetsSeq AutoSeq1
end
section
variable {X : Cx}
end
end Ag

/-! defs that call what they get in a try with one class and a name -/
namespace Ag
open PySem PySem.Spec PyProof.Rows L2
section
variable {X : Cx} {x1 n : Str} {c1 : Value} {i : Nat} {body suite : List Stmt} {b₀ : Stmt} {p1 pos pos' : Pos} {tb : WX → TS} {ts : TS} {Wout : WX}
end
section
variable {P : Program} {w : World} {K : PySem.W.Frag} {mg : Str → Option Value} {base : Heap} {N : List Str} {x : Str} {sg : Scope} {g : Addr} {cdg : Value} {a : Str} {k : Nat}
end
end Ag

/-! how many different nested tuples of whole numbers there are: len(set(..)) -/
namespace Ag
open PySem PySem.Spec PyProof.Rows L2
/-! ### what the model asks of such a tuple -/
abbrev NKi (h : Heap) (k : NestedKey) (b : Addr) : Prop := NestedIs h k (.ref b) ∧ k.depth ≤ 8 ∧ numK k = true
section
variable {P : Program} {w : World} {A : Around} {E : Value → Shared → Prop} {s : Shared}
theorem nki_hash {k : NestedKey} {b : Addr} {Q : Int → Shared → Prop} (hu : A.units + 16 < cLine) (hk : NKi s.heap k b) (q : Q (hashI k) { s with toks := s.toks + k.draws }) : wpAny (model P w) A (pyHash (.ref b)) Q E s :=
  pyHash_key k _ A s Q hk.1 (by have := hk.2.1; omega) (by rw [hash_num w k hk.2.2]; exact q)
theorem nki_eq {k j : NestedKey} {b c : Addr} {Q : Bool → Shared → Prop} (hu : A.units + 16 < cLine) (hk : NKi s.heap k b) (hj : NKi s.heap j c) (q : Q (decide (k = j)) s) : wpAny (model P w) A (eqBool (.ref b) (.ref c)) Q E s :=
  (nestedKind P w).eqBool (show A.units + 8 < cLine by omega) ⟨hk.1, hk.2.1⟩ ⟨hj.1, hj.2.1⟩ q
theorem nki_quiet {k : NestedKey} {b : Addr} {Q : Bool → Shared → Prop} (hk : NKi s.heap k b) (q : Q true s) : wpAny (model P w) A (eqIsQuiet 8 (.ref b)) Q E s :=
  (nestedKind P w).quiet (k := k) ⟨hk.1, hk.2.1⟩ q
/-- a question f of v, n levels down, is answered by ans -/
def Says (P : Program) (w : World) (f : Nat → Value → Sem Bool) (ans : Bool) (n : Nat) (s : Shared) (v : Value) : Prop := ∀ (A : Around) (E : Value → Shared → Prop) (Q : Bool → Shared → Prop), Q ans s → wpAny (model P w) A (f n v) Q E s
theorem says_pure {f : Nat → Value → Sem Bool} {ans : Bool} {n : Nat} {v : Value} (h : f n v = pure ans) : Says P w f ans n s v := fun A E Q q => by rw [h]; exact wpAny_pure q
theorem class_tup {a : Addr} {o : Obj} {vs : Array Value} {n m : Nat} (ho : s.heap.get? a = some o) (hc : o.cls = .type "tuple") (hd : o.data = .seq vs m) (all : ∀ v ∈ vs.toList, Says P w ofAClassStatement false n s v) : Says P w ofAClassStatement false (n + 1) s (.ref a) := fun A E Q q => by
  unfold ofAClassStatement
  refine wpAny_bind (wpAny_typeOf ⟨o, ho, hc⟩ ?_)
  have e : (("tuple" : String) == "tuple") = true := by decide
  simp only [e, if_true]
  refine wpAny_bind (wpAny_pure ?_)
  simp only [Bool.not_true, Bool.false_eq_true, if_false]
  refine wpAny_bind (wpAny_seqItems ho hd ?_)
  refine wpAny_bind ?_
  show wpAny _ _ (forIn vs _ _) _ _ s
  rw [← Array.forIn_toList]
  refine wpAny_forIn_list _ (fun rest r s' => r.1 = none ∧ s' = s ∧ ∀ v ∈ rest, v ∈ vs.toList) _ (fun v rest r s' I => ?_) (fun r s' I => ?_) _ _ ⟨rfl, rfl, fun _ h => h⟩
  · obtain ⟨_, rfl, sub⟩ := I
    refine wpAny_bind (all v (sub v (by simp)) _ _ _ ?_)
    exact wpAny_pure ⟨rfl, rfl, fun u hu => sub u (by simp [hu])⟩
  · obtain ⟨r1, r2⟩ := r
    obtain ⟨e1, rfl, _⟩ := I
    cases e1
    exact wpAny_pure q
theorem value_tup {a : Addr} {o : Obj} {vs : Array Value} {n m : Nat} (ho : s.heap.get? a = some o) (hc : o.cls = .type "tuple") (hd : o.data = .seq vs m) (all : ∀ v ∈ vs.toList, Says P w hashByValue true n s v) : Says P w hashByValue true (n + 1) s (.ref a) := fun A E Q q => by
  unfold hashByValue
  refine wpAny_bind (wpAny_specialOf ⟨o, ho, hc⟩ F.slot_tuple_hash.lookup ?_)
  show wpAny _ _ (seqItems? (.ref a) >>= _) _ _ s
  refine wpAny_bind (wpAny_seqItems ho hd ?_)
  refine wpAny_bind ?_
  show wpAny _ _ (forIn vs _ _) _ _ s
  rw [← Array.forIn_toList]
  refine wpAny_forIn_list _ (fun rest r s' => r.1 = none ∧ s' = s ∧ ∀ v ∈ rest, v ∈ vs.toList) _ (fun v rest r s' I => ?_) (fun r s' I => ?_) _ _ ⟨rfl, rfl, fun _ h => h⟩
  · obtain ⟨_, rfl, sub⟩ := I
    refine wpAny_bind (all v (sub v (by simp)) _ _ _ ?_)
    exact wpAny_pure ⟨rfl, rfl, fun u hu => sub u (by simp [hu])⟩
  · obtain ⟨r1, r2⟩ := r
    obtain ⟨e1, rfl, _⟩ := I
    cases e1
    exact wpAny_pure q
mutual
theorem says_key : ∀ (k : NestedKey) (v : Value) (n : Nat) (s : Shared), NestedIs s.heap k v → numK k = true → k.depth ≤ n → Says P w ofAClassStatement false n s v ∧ Says P w hashByValue true n s v
  | .none, _, n, s, _, z, _ => by simp [numK] at z
  | .text y, _, n, s, _, z, _ => by simp [numK] at z
  | .num i, _, n, s, x, _, _ => by cases x <;> exact ⟨says_pure (by cases n <;> rfl), says_pure (by cases n <;> rfl)⟩
  | .tup ks, _, n, s, x, z, hn => by
    cases x with
    | tup h1 h2 h3 h4 =>
      simp only [NestedKey.depth] at hn
      cases n with
      | zero => omega
      | succ n =>
        have r := says_keys ks _ n s h4 (by simpa only [numK] using z) (by omega)
        exact ⟨class_tup h1 h2 h3 fun v hv => (r v hv).1, value_tup h1 h2 h3 fun v hv => (r v hv).2⟩
theorem says_keys : ∀ (ks : List NestedKey) (vs : List Value) (n : Nat) (s : Shared), NestedAll s.heap ks vs → numKs ks = true → NestedKey.depthAll ks ≤ n → ∀ v ∈ vs, Says P w ofAClassStatement false n s v ∧ Says P w hashByValue true n s v
  | [], vs, n, s, x, _, _, v, hv => by cases x; cases hv
  | k :: ks, vs, n, s, x, z, hn, v, hv => by
    cases x with
    | cons x1 x2 =>
      have z := Bool.and_eq_true_iff.mp (show (numK k && numKs ks) = true from z)
      simp only [NestedKey.depthAll] at hn
      rcases List.mem_cons.mp hv with e | hv
      · rw [e]; exact says_key k _ n s x1 z.1 (by omega)
      · exact says_keys ks _ n s x2 z.2 (by omega) v hv
end
theorem nki_seen {k : NestedKey} {b : Addr} (hk : NKi s.heap k b) {ys : List Value} (all : ∀ y ∈ ys, ∃ j c, y = Value.ref c ∧ NKi s.heap j c) {Q : Bool → Shared → Prop} (q : Q false s) : wpAny (model P w) A (searchCouldBeSeen (.ref b) ys) Q E s := by
  unfold searchCouldBeSeen
  refine wpAny_bind ?_
  refine wpAny_forIn_list _ (fun rest r s' => r.1 = none ∧ s' = s ∧ ∀ y ∈ rest, y ∈ ys) _ (fun y rest r s' I => ?_) (fun r s' I => ?_) _ _ ⟨rfl, rfl, fun _ h => h⟩
  · obtain ⟨_, rfl, sub⟩ := I
    have sub' : ∀ u ∈ rest, u ∈ ys := fun u hu => sub u (by simp [hu])
    obtain ⟨j, c, rfl, hj⟩ := all y (sub y (by simp))
    dsimp only
    split
    · exact wpAny_pure ⟨rfl, rfl, sub'⟩
    · refine wpAny_bind (nki_quiet hk ?_)
      simp only [Bool.not_true, Bool.false_eq_true, if_false]
      refine wpAny_bind (nki_quiet hj ?_)
      simp only [Bool.not_true, Bool.false_eq_true, if_false]
      refine wpAny_bind ((says_key k _ 8 s' hk.1 hk.2.2 hk.2.1).1 _ _ _ ?_)
      simp only [Bool.false_eq_true, if_false]
      refine wpAny_bind ((says_key j _ 8 s' hj.1 hj.2.2 hj.2.1).1 _ _ _ ?_)
      simp only [Bool.false_eq_true, if_false]
      exact wpAny_pure ⟨rfl, rfl, sub'⟩
  · obtain ⟨r1, r2⟩ := r
    obtain ⟨e1, rfl, _⟩ := I
    cases e1
    exact wpAny_pure q
end
/-! ### the way through the table -/
abbrev stepAt (m : Nat) (h : Int) (c : Nat) : SetTable.Probe := nth m (runAt m (SetTable.bits h % (m + 1)) (SetTable.bits h)) c
theorem step_add (m : Nat) (h : Int) (c q : Nat) : nth m (stepAt m h c) q = stepAt m h (c + q) := (nth_add m c _ q).symm
theorem step_dummy (m : Nat) (h : Int) (c : Nat) : (stepAt m h c).dummy = none := by
  have key : ∀ (n : Nat) (p : SetTable.Probe), p.dummy = none → (nth m p n).dummy = none := by
    intro n
    induction n with
    | zero => exact fun p e => e
    | succ n ih => exact fun p e => ih (adv m p) (by unfold adv; split <;> exact e)
  exact key c _ rfl
/-- what a probe tells from the c-th step on: the next entry with this hash, or the first empty slot -/
theorem probe_from {t : SetTable} {hs : List Int} (T : TabOk t hs) {f : Nat → Int} (hf : ∀ (i : Nat) (g : Int), hs[i]? = some g → f i = g) {h : Int} {K c : Nat} (hK : way t.mask h K ∉ t.place.toList) (hb : ∀ c, c < K → way t.mask h c ∈ t.place.toList) (few : K < 10 * SetTable.turns t.mask) (hc : c ≤ K) :
    (∃ q i : Nat, c + q < K ∧ t.place.toList[i]? = some (way t.mask h (c + q)) ∧ hs[i]? = some h ∧ (∀ (r i' : Nat), r < q → t.place.toList[i']? = some (way t.mask h (c + r)) → hs[i']? ≠ some h) ∧ t.probe f h (stepAt t.mask h c) = some (.candidate (way t.mask h (c + q)) i (stepAt t.mask h (c + (q + 1))))) ∨
    ((∀ (r i' : Nat), c + r < K → t.place.toList[i']? = some (way t.mask h (c + r)) → hs[i']? ≠ some h) ∧ t.probe f h (stepAt t.mask h c) = some (.empty (way t.mask h K) none)) := by
  have e : ∀ q, (nth t.mask (stepAt t.mask h c) q).j = way t.mask h (c + q) := fun q => congrArg SetTable.Probe.j (step_add _ _ _ _)
  have at_ : ∀ {i j : Nat}, t.place.toList[i]? = some j → ∃ g, hs[i]? = some g ∧ f i = g := fun {i j} hi => by
    have h1 := (List.getElem?_eq_some_iff.mp hi).1
    have h2 := T.sz
    rw [Array.length_toList] at h1
    have h3 : i < hs.length := by omega
    exact ⟨hs[i], List.getElem?_eq_getElem h3, hf i _ (List.getElem?_eq_getElem h3)⟩
  have spec := go_spec t T.ris T.dm f h (10 * SetTable.turns t.mask) (K - c) (stepAt t.mask h c) (step_dummy _ _ _) (by omega) (fun q hq => by rw [e]; exact hb _ (by omega)) (by rw [e, show c + (K - c) = K by omega]; exact hK)
  rcases spec with ⟨q, i, hq, hi, hh, hno, hpr⟩ | ⟨hno, hpr⟩
  · rw [e] at hi
    obtain ⟨g, g1, g2⟩ := at_ hi
    refine .inl ⟨q, i, by omega, hi, by rw [g1, ← g2, hh], fun r i' hr hi' z => hno r i' hr (by rw [e]; exact hi') (hf i' h z), ?_⟩
    rw [← e, ← step_add]
    exact hpr
  · refine .inr ⟨fun r i' hr hi' z => hno r i' (by omega) (by rw [e]; exact hi') (hf i' h z), ?_⟩
    rw [show way t.mask h K = (nth t.mask (stepAt t.mask h c) (K - c)).j by rw [e, show c + (K - c) = K by omega]]
    exact hpr
/-! ### a set of such tuples -/
abbrev NL := List (Addr × NestedKey)
def nRows (L : NL) : List (Int × Value) := L.map fun p => (hashI p.2, .ref p.1)
def nHs (L : NL) : List Int := L.map fun p => hashI p.2
structure NSet (w : World) (h : Heap) (a : Addr) (L : NL) (es : Array (Int × Value)) (ep : Nat) (t : SetTable) : Prop where
  ob : ∃ o, h.get? a = some o ∧ o.ExactSet ∧ o.data = .set es ep t
  rows : es.toList = nRows L
  tab : TabOk t (nHs L)
  nd : (L.map (·.2)).Nodup
  nk : ∀ p ∈ L, NKi h p.2 p.1
  pl : t.plain = true
  led : w.params.followText "set-order" = true ∨ t.led = true
  room : L.length * 5 < t.mask * 3
  few : L.length < 64
section
variable {P : Program} {w : World} {A : Around} {E : Value → Shared → Prop} {s : Shared} {a : Addr} {L : NL} {es : Array (Int × Value)} {ep : Nat} {t : SetTable}
theorem rows_size {L : NL} {es : Array (Int × Value)} (h : es.toList = nRows L) : es.size = L.length := by
  rw [← Array.length_toList, h]
  simp [nRows]
theorem NSet.places (R : NSet w s.heap a L es ep t) : t.place.size = L.length := by rw [R.tab.sz]; simp [nHs]
theorem NSet.fits (R : NSet w s.heap a L es ep t) : t.fits es.size = true := by
  have h1 := R.places
  have h2 := rows_size R.rows
  have h3 := R.room
  simp only [SetTable.fits, SetTable.fill, R.tab.dm, Bool.and_eq_true, beq_iff_eq, decide_eq_true_eq, List.size_toArray, List.length_nil]
  omega
theorem NSet.row (R : NSet w s.heap a L es ep t) {i : Nat} {p : Addr × NestedKey} (h : L[i]? = some p) : es[i]? = some (hashI p.2, .ref p.1) := by
  rw [← Array.getElem?_toList, R.rows]
  simp [nRows, h]
theorem NSet.hash_at (R : NSet w s.heap a L es ep t) (i : Nat) (g : Int) (h : (nHs L)[i]? = some g) : (es[i]?.map (·.1)).getD 0 = g := by
  unfold nHs at h
  rw [List.getElem?_map] at h
  cases q : L[i]? with
  | none => rw [q] at h; cases h
  | some p =>
    rw [q] at h
    rw [R.row q]
    simpa using h
theorem mem_keys {L : NL} {k : NestedKey} : k ∈ L.map (·.2) ↔ ∃ (i : Nat) (p : Addr × NestedKey), L[i]? = some p ∧ p.2 = k := by
  constructor
  · intro h
    obtain ⟨p, hp, e⟩ := List.mem_map.mp h
    obtain ⟨i, hi⟩ := List.getElem?_of_mem hp
    exact ⟨i, p, hi, e⟩
  · rintro ⟨i, p, hi, e⟩
    exact List.mem_map.mpr ⟨p, List.mem_of_getElem? hi, e⟩
/-- the search, from the c-th step on; what is equal still lies ahead -/
theorem seek_from (R : NSet w s.heap a L es ep t) {x : Addr} {k : NestedKey} (hx : NKi s.heap k x) (hu : A.units + 16 < cLine) {K : Nat} (hK : way t.mask (hashI k) K ∉ t.place.toList) (hb : ∀ c, c < K → way t.mask (hashI k) c ∈ t.place.toList) (hf : K < 10 * SetTable.turns t.mask) {Q : SetFound → Shared → Prop}
    (yes : k ∈ L.map (·.2) → Q (.there none) s) (no : k ∉ L.map (·.2) → Q (.free (way t.mask (hashI k) K) false) s) :
    ∀ (f c : Nat) (st : Option SetTable.Probe), st.getD (t.probeStart (hashI k)) = stepAt t.mask (hashI k) c → c ≤ K → K - c < f →
      (∀ (i : Nat) p, L[i]? = some p → p.2 = k → ∃ r, c + r < K ∧ t.place.toList[i]? = some (way t.mask (hashI k) (c + r))) →
      wpAny (model P w) A (setSearchFrom a (.ref x) (hashI k) true f st) Q E s := by
  intro f
  induction f with
  | zero => intro c st _ _ hlt _; omega
  | succ f ih =>
    intro c st hst hc hlt ahead
    obtain ⟨o, ho, _, hd⟩ := R.ob
    have ng : ¬ t.gaveWay = true := by
      unfold SetTable.gaveWay
      rw [mask_odd R.tab.mok]
      decide
    rw [setSearchFrom_succ]
    refine wpAny_bind (wpAny_setState_of ho hd R.fits ?_)
    dsimp only
    refine wp_if_neg ng ?_
    try refine wpAny_bind (wpAny_pure ?_)
    rw [hst]
    rcases probe_from R.tab R.hash_at hK hb hf hc with ⟨q, i, hq, hi, hh, hno, hpr⟩ | ⟨hno, hpr⟩
    · rw [hpr]
      dsimp only
      obtain ⟨p, hp⟩ : ∃ p, L[i]? = some p := by
        have h1 := (List.getElem?_eq_some_iff.mp hi).1
        have h2 := R.places
        rw [Array.length_toList] at h1
        exact ⟨L[i]'(by omega), List.getElem?_eq_getElem (by omega)⟩
      have hpm := List.mem_of_getElem? hp
      have go : wpAny (model P w) A (searchRest a (.ref x) (hashI k) true f es t (way t.mask (hashI k) (c + q)) i (stepAt t.mask (hashI k) (c + (q + 1)))) Q E s := by
        unfold searchRest
        rw [R.row hp]
        dsimp only
        refine wpAny_bind (wpAny_holding (nki_eq hu (R.nk p hpm) hx ?_))
        refine wpAny_bind (wpAny_setState_of ho hd R.fits ?_)
        dsimp only
        by_cases same : p.2 = k
        · refine wp_if_pos (by simp [same]) ?_
          exact wpAny_pure (yes (mem_keys.mpr ⟨i, p, hp, same⟩))
        · refine wp_if_neg (by simp [same]) ?_
          try refine wpAny_bind (wpAny_pure ?_)
          have hsl : t.slot (way t.mask (hashI k) (c + q)) = .live i := slot_live R.tab.ris hi
          rw [sameMem]
          dsimp only
          simp only [if_true, hsl, R.row hp]
          refine wpAny_bind (wpAny_isSame_ref_self (wpAny_bind (wpAny_pure ?_)))
          simp only [if_true]
          refine wp_if_neg (by simp [same]) ?_
          refine ih (c + (q + 1)) _ rfl (by omega) (by omega) fun j u hj hu' => ?_
          obtain ⟨r, r1, r2⟩ := ahead j u hj hu'
          have hjh : (nHs L)[j]? = some (hashI k) := by simp [nHs, hj, hu']
          have nlt : ¬ r < q := fun z => hno r j z r2 hjh
          have nq : r ≠ q := fun z => by
            subst z
            have s1 := slot_live R.tab.ris r2
            rw [hsl] at s1
            injection s1 with s1
            rw [← s1, hp] at hj
            cases hj
            exact same hu'
          exact ⟨r - (q + 1), by omega, by rw [r2]; congr 2; omega⟩
      by_cases hl : t.led = true
      · refine wp_if_neg (by simp [hl]) ?_
        try refine wpAny_bind (wpAny_pure ?_)
        exact go
      · refine wp_if_pos (by simp [hl]) ?_
        refine wpAny_bind (nki_seen hx (fun y hy => ?_) ?_)
        · obtain ⟨e, he, rfl⟩ := List.mem_map.mp hy
          have he : e ∈ es.toList := by
            have : e ∈ es ∧ e.1 = hashI k := by simpa using he
            simpa using this.1
          rw [R.rows] at he
          obtain ⟨u, hu', rfl⟩ := List.mem_map.mp he
          exact ⟨u.2, u.1, rfl, R.nk u hu'⟩
        · refine wp_if_neg (by decide) ?_
          try refine wpAny_bind (wpAny_pure ?_)
          exact go
    · rw [hpr]
      dsimp only
      refine wpAny_pure (no fun hm => ?_)
      obtain ⟨j, u, hj, hu'⟩ := mem_keys.mp hm
      obtain ⟨r, r1, r2⟩ := ahead j u hj hu'
      exact hno r j r1 r2 (by simp [nHs, hj, hu'])
theorem seek (R : NSet w s.heap a L es ep t) {x : Addr} {k : NestedKey} (hx : NKi s.heap k x) (hu : A.units + 16 < cLine) {Q : SetFound → Shared → Prop}
    (yes : k ∈ L.map (·.2) → Q (.there none) s)
    (no : ∀ K, k ∉ L.map (·.2) → way t.mask (hashI k) K ∉ t.place.toList → (∀ c, c < K → way t.mask (hashI k) c ∈ t.place.toList) → Q (.free (way t.mask (hashI k) K) false) s) :
    wpAny (model P w) A (setSearch a (.ref x) (hashI k) true) Q E s := by
  have hr := R.room
  obtain ⟨K, few, hK, hb⟩ := R.tab.first (by simp only [nHs, List.length_map]; omega) (hashI k)
  have big : 10 * SetTable.turns t.mask < 100000 := by
    unfold SetTable.turns
    rcases R.tab.mok with e | e | e <;> rw [e] <;> decide
  unfold setSearch
  refine seek_from R hx hu hK hb few yes (fun hn => no K hn hK hb) 100000 0 none rfl (Nat.zero_le _) (by omega) fun i p hp hk => ?_
  have il : i < t.place.toList.length := by
    have h1 := (List.getElem?_eq_some_iff.mp hp).1
    have h2 := R.places
    rw [Array.length_toList]
    omega
  obtain ⟨c, hc, e⟩ := R.tab.before hK (show (nHs L)[i]? = some (hashI k) by simp [nHs, hp, hk]) (List.getElem?_eq_getElem il)
  exact ⟨c, by omega, by rw [Nat.zero_add, List.getElem?_eq_getElem il, e]⟩
/-! ### adding -/
theorem nki_same {h h' : Heap} {a b : Addr} {o : Obj} {es : Array (Int × Value)} {ep : Nat} {t : SetTable} {k : NestedKey} (hk : NKi h k b) (ho : h.get? a = some o) (hd : o.data = .set es ep t) (sb : Heap.SameBut a h h') : NKi h' k b :=
  ⟨NestedIs.at (fun c oc vs n hc hs => (sb.2 c fun z => by
    rw [z, ho] at hc
    cases hc
    rw [hd] at hs
    cases hs).trans hc) _ _ hk.1, hk.2⟩
theorem range_pick {α : Type} (l : List α) : (List.range l.length).filterMap (fun i => l[i]?) = l := by
  have key : ∀ n, n ≤ l.length → (List.range n).filterMap (fun i => l[i]?) = l.take n := by
    intro n
    induction n with
    | zero => intro _; rfl
    | succ n ih =>
      intro h
      have e : l[n]? = some (l[n]'(by omega)) := List.getElem?_eq_getElem _
      rw [List.range_succ, List.filterMap_append, ih (by omega), List.take_add_one, e]
      simp [e]
  rw [key _ (Nat.le_refl _), List.take_length]
theorem rows_at {L : NL} {es : Array (Int × Value)} (h : es.toList = nRows L) (i : Nat) : es[i]? = (L[i]?).map fun p => (hashI p.2, Value.ref p.1) := by
  rw [← Array.getElem?_toList, h]
  simp [nRows]
/-- the entries in another order -/
theorem rows_order {L : NL} {es : Array (Int × Value)} {order : Array Nat} (h : es.toList = nRows L) (hp : order.toList.Perm (List.range L.length)) :
    ∃ L', L'.Perm L ∧ (order.filterMap (es[·]?)).toList = nRows L' ∧ nHs L' = order.toList.map fun i => (es.map (·.1)).getD i 0 := by
  refine ⟨order.toList.filterMap fun i => L[i]?, ?_, ?_, ?_⟩
  · have := hp.filterMap fun i => L[i]?
    rwa [range_pick] at this
  · rw [Array.toList_filterMap]
    unfold nRows
    rw [List.map_filterMap]
    congr 1
    exact funext fun i => rows_at h i
  · have lt : ∀ i ∈ order.toList, i < L.length := fun i hi => List.mem_range.mp (hp.mem_iff.mp hi)
    unfold nHs
    rw [List.map_filterMap]
    generalize order.toList = l at lt
    induction l with
    | nil => rfl
    | cons i l ih =>
      have hi := lt i (by simp)
      have e : L[i]? = some L[i] := List.getElem?_eq_getElem hi
      have e2 : es[i]? = some (hashI L[i].2, .ref L[i].1) := by rw [rows_at h i, e]; rfl
      have e3 : (es.map (·.1)).getD i 0 = hashI L[i].2 := by simp [Array.getD_eq_getD_getElem?, e2]
      rw [List.filterMap_cons, e, List.map_cons, e3]
      show hashI L[i].2 :: _ = _
      rw [ih fun j hj => lt j (by simp [hj])]
/-- the set laid anew -/
theorem relay_ok {o : Obj} (ho : s.heap.get? a = some o) (hex : o.ExactSet) (hd : o.data = .set es ep t) (hr : es.toList = nRows L) (hsz : t.place.size = es.size) (hdm : t.dummies = #[]) (hfl : es.size ≤ t.mask)
    (nd : (L.map (·.2)).Nodup) (nk : ∀ p ∈ L, NKi s.heap p.2 p.1) (pl : t.plain = true) (ld : w.params.followText "set-order" = true ∨ t.led = true) (few : L.length < 64) {wanted M : Nat}
    (hw : SetTable.sizeAbove wanted = M + 1) (hM : MaskOk M) (hn : L.length * 5 < M * 3) {Q : Unit → Shared → Prop}
    (q : ∀ h' L' es' ep' t', Heap.SameBut a s.heap h' → NSet w h' a L' es' ep' t' → L'.Perm L → Q () { s with heap := h' }) : wpAny (model P w) A (setRelay a wanted) Q E s := by
  have hl := rows_size hr
  have m127 : M ≤ 127 := by rcases hM with e | e | e <;> omega
  have hfit : t.fits es.size = true := by
    simp only [SetTable.fits, SetTable.fill, hdm, Bool.and_eq_true, beq_iff_eq, decide_eq_true_eq, List.size_toArray, List.length_nil]
    omega
  obtain ⟨t', order, e, hp, T, em, el, epl, ed⟩ := relaid_ok t (hs := es.map (·.1)) (wanted := wanted) (M := M) (by omega) hM (by rw [Array.size_map]; omega)
  rw [Array.size_map, hl] at hp
  obtain ⟨L', pm, r1, r2⟩ := rows_order hr hp
  rw [← r2] at T
  have hs' : (order.filterMap (es[·]?)).size = es.size := by rw [rows_size r1, pm.length_eq, hl]
  rw [setRelay_eq]
  refine wpAny_bind (wpAny_setState_of ho hd hfit ?_)
  dsimp only
  refine wp_if_neg (by rw [sizeLine_eq]; omega) ?_
  try refine wpAny_bind (wpAny_pure ?_)
  rw [e]
  dsimp only
  refine wpAny_bind ?_
  refine wp_if_neg (by rw [hs']; simp) ?_
  try refine wpAny_bind (wpAny_pure ?_)
  refine wpAny_pure ?_
  dsimp only
  refine wpAny_storeSet_of ho hd ?_ (by rw [hs', hl, sizeLine_eq]; omega)
  have sb : Heap.SameBut a s.heap (s.heap.update a (Obj.putSet (order.filterMap (es[·]?)) t')) := Heap.SameBut.update ..
  exact q _ L' _ (ep + 1) t' sb ⟨⟨_, store_at ho hd, ⟨hex.1, hex.2.1, hex.2.2⟩, rfl⟩, r1, T, (pm.map (·.2)).nodup_iff.mpr nd, fun p hp => nki_same (nk p (pm.mem_iff.mp hp)) ho hd sb, by rw [epl]; exact pl, by rw [el]; exact ld, by rw [pm.length_eq, em]; exact hn, by rw [pm.length_eq]; exact few⟩ pm
theorem room_cases {m n : Nat} (hm : MaskOk m) (h1 : n * 5 < m * 3) (h2 : m * 3 ≤ (n + 1) * 5) (few : n + 1 < 64) : ∃ M, SetTable.sizeAbove (SetTable.grown (n + 1)) = M + 1 ∧ MaskOk M ∧ (n + 1) * 5 < M * 3 := by
  rcases hm with e | e | e
  · have : n = 4 := by omega
    subst this
    exact ⟨31, size_20, .inr (.inl rfl), by decide⟩
  · have : n = 18 := by omega
    subst this
    exact ⟨127, size_76, .inr (.inr rfl), by decide⟩
  · omega
theorem add_ok (R : NSet w s.heap a L es ep t) {x : Addr} {k : NestedKey} (hx : NKi s.heap k x) (hu : A.units + 16 < cLine) (few : L.length + 1 < 64) {Q : Bool → Shared → Prop}
    (old : k ∈ L.map (·.2) → Q false s)
    (new : k ∉ L.map (·.2) → ∀ h' L' es' ep' t', Heap.SameBut a s.heap h' → NSet w h' a L' es' ep' t' → L'.Perm ((x, k) :: L) → Q true { s with heap := h' }) :
    wpAny (model P w) A (setAddHashed a (.ref x) (hashI k)) Q E s := by
  obtain ⟨o, ho, hex, hd⟩ := R.ob
  have hl := rows_size R.rows
  have hroom := R.room
  unfold setAddHashed
  refine wpAny_holding ?_
  rw [show (100000 : Nat) = 99999 + 1 from rfl, setAddHashedIn_succ]
  refine wpAny_bind (wpAny_setState_of ho hd R.fits ?_)
  dsimp only
  refine wp_if_neg (by simp [byScan, Value.scannable]) ?_
  try refine wpAny_bind (wpAny_pure ?_)
  refine wpAny_bind (seek R hx hu (fun hm => ?_) fun K hm hK hb => ?_)
  · dsimp only
    exact wpAny_pure (old hm)
  · dsimp only
    refine wpAny_bind (wpAny_setState_of ho hd R.fits ?_)
    dsimp only
    obtain ⟨q1, q2, q3, q4, q5, q6, _, _, q9⟩ := R.tab.put hK hb
    generalize way t.mask (hashI k) K = W at q1 q2 q3 q4 q5 q6 q9 ⊢
    generalize t.put W = pt at q1 q3 q4 q5 q6 q9 ⊢
    obtain ⟨t1, pp⟩ := pt
    dsimp only at q1 q3 q4 q5 q6 q9 ⊢
    subst q1
    generalize SetTable.below t.place W = n at q2 q3 ⊢
    have hp1 : t1.plain = true := by rw [q6]; exact R.pl
    refine wp_if_pos hp1 (wpAny_bind ((says_key k _ 8 s hx.1 hx.2.2 hx.2.1).2 _ _ _ ?_))
    simp only [if_true]
    have pm : (L.take n ++ (x, k) :: L.drop n).Perm ((x, k) :: L) := by
      have := List.perm_middle (a := (x, k)) (l₁ := L.take n) (l₂ := L.drop n)
      rwa [List.take_append_drop] at this
    have r1 : (SetTable.insertAt es n (hashI k, .ref x)).toList = nRows (L.take n ++ (x, k) :: L.drop n) := by
      rw [SetTable.toList_insertAt, R.rows]
      simp [nRows, List.map_take, List.map_drop]
    have r2 : (nHs L).take n ++ hashI k :: (nHs L).drop n = nHs (L.take n ++ (x, k) :: L.drop n) := by simp [nHs, List.map_take, List.map_drop]
    rw [r2] at q3
    have nd1 : ((L.take n ++ (x, k) :: L.drop n).map (·.2)).Nodup := (pm.map (·.2)).nodup_iff.mpr (by
      rw [List.map_cons]
      exact List.nodup_cons.mpr ⟨hm, R.nd⟩)
    generalize L.take n ++ (x, k) :: L.drop n = L1 at pm r1 q3 nd1
    generalize SetTable.insertAt es n (hashI k, .ref x) = es1 at r1 ⊢
    have len1 : L1.length = L.length + 1 := pm.length_eq
    have sz1 : es1.size = L.length + 1 := by rw [rows_size r1, len1]
    refine wpAny_bind (wpAny_storeSet_of ho hd ?_ (by rw [sz1, sizeLine_eq]; omega))
    have sb : Heap.SameBut a s.heap (s.heap.update a (Obj.putSet es1 t1)) := Heap.SameBut.update ..
    have ho1 := store_at (es' := es1) (t' := t1) ho hd
    generalize s.heap.update a (Obj.putSet es1 t1) = h1 at sb ho1 ⊢
    have nk1 : ∀ p ∈ L1, NKi h1 p.2 p.1 := fun p hp => by
      rcases List.mem_cons.mp (pm.mem_iff.mp hp) with e | hp
      · rw [e]; exact nki_same hx ho hd sb
      · exact nki_same (R.nk p hp) ho hd sb
    have led1 : w.params.followText "set-order" = true ∨ t1.led = true := by rw [q5]; exact R.led
    have fl1 : t1.fill = L.length + 1 := by rw [q9]; simp [nHs]
    by_cases hfull : t1.tooFull = true
    · have big : t.mask * 3 ≤ (L.length + 1) * 5 := by
        have h := hfull
        unfold SetTable.tooFull at h
        rw [decide_eq_true_eq, fl1, q4] at h
        exact h
      obtain ⟨M, m1, m2, m3⟩ := room_cases R.tab.mok hroom big few
      refine wp_if_pos (by simp [hfull]) ?_
      rw [hl]
      refine wpAny_bind (relay_ok (s := { s with heap := h1 }) ho1 ⟨hex.1, hex.2.1, hex.2.2⟩ rfl r1 ?_ q3.dm (by rw [sz1, q4]; omega) nd1 nk1 hp1 led1 (by rw [len1]; exact few) m1 m2 (by rw [len1]; exact m3) fun h2 L2 es2 ep2 t2 sb2 R2 pm2 => ?_)
      · rw [q3.sz, sz1]
        simp [nHs, len1]
      · exact wpAny_pure (new hm h2 L2 es2 ep2 t2 (sb.trans sb2) R2 (pm2.trans pm))
    · refine wp_if_neg (by simp [hfull]) ?_
      refine wpAny_pure (new hm h1 L1 es1 (ep + 1) t1 sb ⟨⟨_, ho1, ⟨hex.1, hex.2.1, hex.2.2⟩, rfl⟩, r1, q3, nd1, nk1, hp1, led1, ?_, by rw [len1]; exact few⟩ pm)
      have h := hfull
      unfold SetTable.tooFull at h
      rw [decide_eq_true_eq, fl1] at h
      rw [len1]
      omega
end
/-! ### set(xs) -/
section
variable {P : Program} {w : World} {A : Around}
/-- a set is filled from any walk; all that the walk does not write stays -/
theorem set_walkK {I : Addr} {fp wr : List Addr} {G : Array GenState → Array GenState → Prop} {n : Nat} {Pv : Nat → Value → Prop} {St : Nat → Shared → Prop} {R : Result → Shared → Prop} (W : WalksS P w A.in1 I fp wr G n Pv St) (T : Addr) (hT : T ∉ fp) (J : Nat → Heap → Prop)
    (keep : ∀ {i h h'}, J i h → (∀ b o, b ∉ wr → h.get? b = some o → h'.get? b = some o) → J i h')
    (add : ∀ (E : Value → Shared → Prop) (i : Nat) (v : Value) (s : Shared) (Q : Bool → Shared → Prop), i < n → Pv i v → J i s.heap → (∀ b h' tk, s.toks ≤ tk → Heap.SameBut T s.heap h' → J (i + 1) h' → Q b { s with heap := h', toks := tk }) → wpAny (model P w) A.in1 (setAdd T v) Q E s) :
    ∀ (k i : Nat) (s : Shared), i + k = n → St i s → J i s.heap → (∀ s', Moved (T :: wr) G s s' → J n s'.heap → R (.ok (.ret .none)) s') → codeAny (model P w) A (.builtin "set.update.loop" ⟨[.ref T, .ref I], []⟩) R s
  | 0, i, s, hk, hst, hJ, hR => by
    obtain rfl : i = n := hk
    refine codeAny_builtin F.entry_set_update_loop ?_
    rw [Around.under_plainId F.plain_set_update_loop _]
    refine wpAny_bind (W.done s _ _ hst fun s' hm => ?_)
    exact (show wpAny _ _ (ret Value.none) _ _ _ from wpAny_pure (hR s' (hm.mono fun b hb => List.mem_cons_of_mem _ hb) (keep hJ fun b o nb e => hm.heap b o nb e)))
  | k + 1, i, s, hk, hst, hJ, hR => by
    refine codeAny_builtin F.entry_set_update_loop ?_
    rw [Around.under_plainId F.plain_set_update_loop _]
    refine wpAny_bind (W.item i s _ _ (show i < n by omega) hst fun v s' hv hst' hm => ?_)
    show wpAny _ _ (holding [v] (setAdd T v) >>= _) _ _ _
    refine wpAny_bind (wpAny_holding (add _ i v s' _ (by omega) hv (keep hJ fun b o nb e => hm.heap b o nb e) fun b h' tk le sb hJ' => ?_))
    refine wpAny_pure ⟨plainId_quiet F.plain_set_update_loop _, set_walkK W T hT J keep add k (i + 1) _ (by omega) (W.frame _ s' _ _ hst' le fun c hc o e => ?_) hJ' fun s2 m2 j2 => hR s2 (Moved.trans W.gtrans ((hm.mono fun b hb => List.mem_cons_of_mem _ hb).then_heap le fun c o hc e => ?_) m2) j2⟩
    · exact (sb.2 c fun z => hT (z ▸ hc)).trans e
    · exact (sb.2 c fun z => hc (z ▸ List.mem_cons_self)).trans e
end
/-- what is known of a set whose size alone is asked for -/
def SetN0 (h : Heap) (a : Addr) (n : Nat) : Prop := ∃ o es ep t, h.get? a = some o ∧ o.ExactSet ∧ o.data = .set es ep t ∧ t.fits es.size = true ∧ es.size = n
/-- the set behind the first i things -/
structure NGot (w : World) (h0 h : Heap) (a : Addr) (ks : NL) (i : Nat) : Prop where
  keep : ∀ b o, h0.get? b = some o → h.get? b = some o
  set : ∃ L es ep t, NSet w h a L es ep t ∧ (∀ p ∈ L, p ∈ ks.take i) ∧ ∀ p ∈ ks.take i, p.2 ∈ L.map (·.2)
section
variable {P : Program} {w : World} {A : Around} {E : Value → Shared → Prop} {s : Shared}
theorem nki_keep {h h' : Heap} {k : NestedKey} {b : Addr} (hk : NKi h k b) (kp : ∀ b o, h.get? b = some o → h'.get? b = some o) : NKi h' k b := ⟨NestedIs.at (fun c o _ _ e _ => kp c o e) _ _ hk.1, hk.2⟩
theorem nset_fresh {h : Heap} {a : Addr} (ho : h.get? a = some (set0 w)) : NSet w h a [] #[] 0 (.fresh 0 0 (!w.params.followText "set-order")) where
  ob := ⟨_, ho, ⟨rfl, rfl, rfl⟩, rfl⟩
  rows := rfl
  tab := ⟨List.Pairwise.nil, rfl, rfl, .inl rfl, fun x hx => (by cases hx), fun i h j hi => (by simp [nHs] at hi)⟩
  nd := List.nodup_nil
  nk := fun p hp => (by cases hp)
  pl := rfl
  led := by
    show _ ∨ (!w.params.followText "set-order") = true
    cases w.params.followText "set-order" <;> simp
  room := (by decide : 0 * 5 < 7 * 3)
  few := (by decide : 0 < 64)
theorem set_nest {l : Addr} {items : Array Value} {ks : NL} {Q : Value → Shared → Prop} (calm : A.handled = none) (hu : A.units + 40 < cLine) (hl : s.heap.IsList l items) (hi : items.toList = ks.map fun p => Value.ref p.1) (hk : ∀ p ∈ ks, NKi s.heap p.2 p.1) (few : ks.length < 64)
    (fin : ∀ g tk, SetN0 g s.heap.objs.size (manyN (ks.map (·.2))) → (∀ b o, s.heap.get? b = some o → g.get? b = some o) → Q (.ref s.heap.objs.size) { s with heap := g, toks := tk }) : wpAny (model P w) A (call (.type "set") [.ref l]) Q E s := by
  obtain ⟨⟨oc, od, oda, osl⟩, ho, hc, nl, hd⟩ := id hl
  simp only at hc hd
  subst hc hd
  have lt : l < s.heap.objs.size := Heap.lt_size ho
  have sz : items.size = ks.length := by rw [← Array.length_toList, hi, List.length_map]
  have z1 : (s.heap.push (set0 w)).objs.size = s.heap.objs.size + 1 := Heap.size_push ..
  have out : ∀ {b : Addr} {o : Obj}, s.heap.get? b = some o → b < s.heap.objs.size := fun e => Heap.lt_size e
  refine set_from (Fin := fun g => SetN0 g s.heap.objs.size (manyN (ks.map (·.2)))) (it := { cls := .type "list_iterator", data := .fields #[.ref l, .int 0 0] }) ho F.sub_list_set F.sub_list_frozenset (by decide) (fun A' E' s' Q' h q => wpAny_pyIter_list ⟨_, h, rfl, nl, rfl⟩ q) ?_ fin
  intro R hR
  have ne : l ≠ (s.heap.push (set0 w)).objs.size := z1 ▸ Nat.ne_of_lt (Nat.lt_succ_of_lt lt)
  have nf : s.heap.objs.size ∉ [(s.heap.push (set0 w)).objs.size, l] := fun z => by
    rcases List.mem_cons.mp z with z | z
    · exact absurd (z.trans z1) (Nat.ne_of_lt (Nat.lt_succ_self _))
    · exact absurd (List.mem_singleton.mp z) (Nat.ne_of_gt lt)
  refine set_walkK (A := A.in1.in1) ((Walks.list (A := A.in1.in1.in1) (by simpa using calm) _ l ne items).toS) s.heap.objs.size nf (fun i h => NGot w s.heap h s.heap.objs.size ks i) ?_ ?_ items.size 0 _ (by omega) ⟨⟨_, Heap.get?_push_size _ rfl, rfl, rfl⟩, (hl.push _).push _⟩ ?_ ?_
  · rintro i h h' ⟨kp, L, es, ep, t, N, g1, g2⟩ hkp
    have kp' : ∀ b o, s.heap.get? b = some o → h'.get? b = some o := fun b o e => hkp b o (fun z => absurd (out e) (Nat.not_lt_of_le (by rw [List.mem_singleton.mp z, z1]; exact Nat.le_succ _))) (kp b o e)
    refine ⟨kp', L, es, ep, t, ⟨?_, N.rows, N.tab, N.nd, fun p hp => nki_keep (hk p (List.mem_of_mem_take (g1 p hp))) kp', N.pl, N.led, N.room, N.few⟩, g1, g2⟩
    obtain ⟨o, e, r⟩ := N.ob
    exact ⟨o, hkp _ o (fun z => absurd ((List.mem_singleton.mp z).trans z1) (Nat.ne_of_lt (Nat.lt_succ_self _))) e, r⟩
  · intro E' i v s' Q' hi' hv hJ q
    obtain ⟨kp, L, es, ep, t, N, g1, g2⟩ := hJ
    obtain ⟨p, hp, rfl⟩ : ∃ p, ks[i]? = some p ∧ v = .ref p.1 := by
      have e : items.toList[i]? = some v := by rw [Array.getElem?_toList]; exact hv
      rw [hi, List.getElem?_map] at e
      cases q : ks[i]? with
      | none => rw [q] at e; cases e
      | some p => rw [q] at e; exact ⟨p, rfl, (Option.some.inj e).symm⟩
    have hx : NKi s'.heap p.2 p.1 := nki_keep (hk p (List.mem_of_getElem? hp)) kp
    have et : ks.take (i + 1) = ks.take i ++ [p] := by rw [List.take_add_one, hp]; rfl
    have hu' : A.in1.in1.in1.units + 16 < cLine := by simp only [Around.in1_units]; omega
    have Lle : L.length ≤ i := by
      have := nodup_len N.nd (m := (ks.take i).map (·.2)) fun k h => by
        obtain ⟨u, hu, rfl⟩ := List.mem_map.mp h
        exact List.mem_map.mpr ⟨u, g1 u hu, rfl⟩
      rw [List.length_map, List.length_map, List.length_take] at this
      omega
    unfold setAdd
    refine wpAny_holding (wpAny_bind (nki_hash hu' hx ?_))
    refine add_ok (s := { s' with toks := s'.toks + p.2.draws }) N hx hu' (by omega) (fun hm => ?_) fun hm h' L' es' ep' t' sb N' pm => ?_
    · refine q false s'.heap _ (Nat.le_add_right _ _) (Heap.SameBut.refl _ _) ⟨kp, L, es, ep, t, N, fun u hu => ?_, fun u hu => ?_⟩
      · rw [et]; exact List.mem_append_left _ (g1 u hu)
      · rw [et] at hu
        rcases List.mem_append.mp hu with hu | hu
        · exact g2 u hu
        · rw [List.mem_singleton.mp hu]; exact hm
    · refine q true h' _ (Nat.le_add_right _ _) sb ⟨fun b o e => (sb.2 b (Nat.ne_of_lt (out e))).trans (kp b o e), L', es', ep', t', N', fun u hu => ?_, fun u hu => ?_⟩
      · rw [et]
        rcases List.mem_cons.mp (pm.mem_iff.mp hu) with e | hu
        · rw [e]; exact List.mem_append_right _ (List.mem_singleton.mpr rfl)
        · exact List.mem_append_left _ (g1 u hu)
      · rw [(pm.map (·.2)).mem_iff, List.map_cons]
        rw [et] at hu
        rcases List.mem_append.mp hu with hu | hu
        · exact List.mem_cons_of_mem _ (g2 u hu)
        · rw [List.mem_singleton.mp hu]; exact List.mem_cons_self
  · have g0 : ((s.heap.push (set0 w)).push { cls := .type "list_iterator", data := .fields #[.ref l, .int 0 0] }).get? s.heap.objs.size = some (set0 w) := Heap.get?_push_of_some _ (Heap.get?_push_size _ rfl)
    exact ⟨fun b o e => Heap.get?_push_of_some _ (Heap.get?_push_of_some _ e), [], #[], 0, _, nset_fresh g0, fun p hp => (by cases hp), fun p hp => (by simp at hp)⟩
  · intro s' mv hS
    obtain ⟨g, g2, d', tk', os'⟩ := s'
    obtain rfl : g2 = s.gens := mv.gens
    obtain rfl : d' = s.drawn := mv.drawn
    obtain rfl : os' = s.os := mv.os
    obtain ⟨kp, L, es, ep, t, N, g1, g3⟩ := hS
    rw [List.take_of_length_le (by omega)] at g1 g3
    obtain ⟨o, e1, e2, e3⟩ := N.ob
    refine hR g tk' ⟨o, es, ep, t, e1, e2, e3, N.fits, ?_⟩ kp
    rw [rows_size N.rows]
    have a1 := nodup_len N.nd (m := distN (ks.map (·.2))) fun k h => by
      obtain ⟨u, hu, rfl⟩ := List.mem_map.mp h
      exact mem_dist.mpr (List.mem_map.mpr ⟨u, g1 u hu, rfl⟩)
    have a2 := nodup_len (dist_nd (ks.map (·.2))) (m := L.map (·.2)) fun k h => by
      obtain ⟨u, hu, rfl⟩ := List.mem_map.mp (mem_dist.mp h)
      exact g3 u hu
    rw [List.length_map] at a1 a2
    unfold manyN
    omega
end
/-! ### len(set(xs)) -/
def tupK : NestedKey → Bool
  | .tup _ => true
  | _ => false
section
variable {X : Cx} {W : WX} {pins : List (Addr × Obj)} {σ : L2.St} {H : Hp} {s : Shared}
theorem keys_refs (I : L2.Inv X pins σ H s) : ∀ {ks : List NestedKey} {vs : List V} {us : List Value}, KeyHs X.K H ks vs → Vals vs us → ks.all tupK = true → numKs ks = true → NestedKey.depthAll ks ≤ 8 → ∃ L : NL, L.map (·.2) = ks ∧ us = L.map (fun p => Value.ref p.1) ∧ ∀ p ∈ L, NKi s.heap p.2 p.1
  | [], _, _, a, r, _, _, _ => by cases a; cases r; exact ⟨[], rfl, rfl, fun p hp => by cases hp⟩
  | k :: ks, _, _, a, r, ht, hn, hd => by
    cases a with
    | cons a1 a2 =>
      cases r with
      | cons r1 r2 =>
        simp only [List.all_cons, Bool.and_eq_true] at ht
        have hn := Bool.and_eq_true_iff.mp (show (numK k && numKs ks) = true from hn)
        simp only [NestedKey.depthAll] at hd
        obtain ⟨L, e1, e2, e3⟩ := keys_refs I a2 r2 ht.2 hn.2 (by omega)
        have ki := key_is I a1 r1
        cases a1 with
        | num i => simp [tupK] at ht
        | @tup b xs js g1 g2 =>
          have e : _ = Value.ref b := r1
          refine ⟨(b, .tup js) :: L, by rw [List.map_cons, e1], by rw [List.map_cons, ← e2, e], fun p hp => ?_⟩
          rcases List.mem_cons.mp hp with rfl | hp
          · rw [e] at ki
            exact ⟨ki, by show NestedKey.depth (.tup js) ≤ 8; omega, hn.1⟩
          · exact e3 p hp
def SetNO (a : Addr) (n : Nat) : HO := .ext fun h => SetN0 h a n
theorem setNO_new {P : Program} {w : World} {H : Hp} {h : Heap} {a : Addr} {n : Nat} (R : SetN0 h a n) : ObjOk P w H h a (SetNO a n) := by
  have ⟨o, es, ep, t, ho, r⟩ := R
  exact ⟨R, ⟨o, ho⟩, fun h1 h2 ⟨o, es, ep, t, ho, r⟩ k => ⟨o, es, ep, t, k o ho, r⟩⟩
def rSetN (K : PySem.W.Frag) : List V → Hp → VK → Prop := fun vs H Q => ∃ (a : Addr) (xs : List V) (ks : List NestedKey), vs = [.ref a] ∧ SqL K H a xs ∧ KeyHs K H ks xs ∧ ks.all tupK = true ∧ numKs ks = true ∧ NestedKey.depthAll ks ≤ 8 ∧ ks.length < 64 ∧ ∀ p, H p = none → Q (.ref p) (upd H p (SetNO p (manyN ks)))
theorem cr_setN (hc : X.calm = true) (hu : X.A.units + 64 < cLine) : CallR X (.type "set") (rSetN X.K) := by
  intro pins s σ H vs us Q I r h
  obtain ⟨a, xs, ks, rfl, sq, kh, ht, hn, hd, few, q⟩ := h
  obtain ⟨its, rv, pl, _⟩ := I.list sq
  rw [Vals.ref1 r]
  obtain ⟨L, e1, e2, e3⟩ := keys_refs I kh (by simpa using rv) ht hn hd
  have ll : L.length = ks.length := by rw [← e1, List.length_map]
  refine set_nest (I.ok.hd hc) (by omega) pl.isList e2 e3 (by omega) fun g tk hS kp => ?_
  rw [e1] at hS
  exact ⟨.ref _, _, I.laid (t' := tk) kp (Nat.le_refl _) (setNO_new hS), rfl, q _ (I.hok.fresh (Nat.le_refl _))⟩
def rLenN : List V → Hp → VK → Prop := fun vs H Q => ∃ (a : Addr) (n : Nat), vs = [.ref a] ∧ H a = some (SetNO a n) ∧ n < 4096 ∧ Q (.int n) H
theorem cr_lenN : CallR X (.builtin "len") rLenN := by
  intro pins s σ H vs us Q I r h
  obtain ⟨a, n, rfl, ha, few, q⟩ := h
  obtain ⟨o, es, ep, t, ho, hex, hd, hf, hn⟩ := (show SetN0 s.heap a n from (I.hok a _ ha).1)
  rw [Vals.ref1 r]
  exact call_len_set ho hex hd hf (by omega) ⟨.int n, H, I.tok _, ⟨_, by rw [hn]⟩, q⟩
/-- len(set(x)), x a list of nested tuples of whole numbers -/
def gLenSetN (d : D) (S : Sto) : Option D := ((rdOf d S).bind (optK (keyF 8))).bind fun ks => if ks.length < 64 ∧ ks.all tupK = true then some (.int (manyN ks)) else none
variable {e : Expr} {me : EM} {p1 pos1 p2 pos2 : Pos}
theorem e_lenSetN (hc : X.calm = true) (hu : X.A.units + 64 < cLine) (hg1 : Gl X "len") (hm1 : X.mg "len" = none) (hg2 : Gl X "set") (hm2 : X.mg "set" = none) (he : PE X e (tE X.K W me)) (na : starEach [e] X.env = (false, eval e X.env) :: starEach [] X.env := by rfl)
    (nb : starEach [.Call (.Name "set" p2) [e] [] pos2] X.env = (false, eval (.Call (.Name "set" p2) [e] [] pos2) X.env) :: starEach [] X.env := by rfl) : PE X (.Call (.Name "len" p1) [.Call (.Name "set" p2) [e] [] pos2] [] pos1) (tE X.K W (mUn gLenSetN me)) := by
  refine PE.imp (pe_callB cr_lenN hg1 hm1 boot_len (pa_cons (pe_callTy (cr_setN hc hu) hg2 hm2 boot_set (pa_cons he pa_nil na) (he := na)) pa_nil nb) (he := nb)) ?_
  rintro σ H Q ⟨en, S, m, er, si, h⟩
  refine ⟨en, S, m, er, si, (PostG.bind (R := Rep X.K) h).mono ?_⟩
  rintro v H1 ⟨d, S1, m1, e1, s1, r1, h1⟩
  unfold gLenSetN at h1
  cases q : rdOf d S1 with
  | none => rw [q] at h1; exact h1.elim
  | some l =>
    rw [q] at h1
    cases q2 : optK (keyF 8) l with
    | none => simp only [Option.bind_some, Option.bind_none, q2] at h1; exact h1.elim
    | some ks =>
      simp only [Option.bind_some, q2] at h1
      by_cases hl : ks.length < 64 ∧ ks.all tupK = true
      · rw [if_pos hl] at h1
        obtain ⟨a, vs, rfl, g1, g2⟩ := rd_at s1 r1 q
        obtain ⟨k1, k2, k3⟩ := optK_ok (fun d v k h q => keyF_ok 8 d v k h q) g2 q2
        have ml := many_le ks
        refine ⟨a, vs, ks, rfl, g1, k1, hl.2, k2, k3, hl.1, fun p hp => ⟨p, _, rfl, upd_same, by omega, ?_⟩⟩
        exact h1 _ m1 _ (.new hp) (s1.new hp) (.int _)
      · rw [if_neg hl] at h1; exact h1.elim
end
end Ag

namespace Ag.k21
open PySem PySem.Spec PyProof.Rows L2
def N_Council_ways : List Str := ["self"]
def s_Council_ways : SM := (sRet (mUn (fFld ["Council"] "tables") (mVar 0)))
def F_Council_ways : List D → Sto → Res D := runB 1 s_Council_ways
def N_reduced : List Str := ["top", "bottom", "one", "other"]
noncomputable def s_reduced : SM := (sSeq (sPar 2 3 (mCons (mCB (f1 gAbs) (mCons (mVar 0) mNil)) (mCons (mVar 1) mNil)))
  (sSeq (sWh (mB (mOp fNe (mVar 3) (mC (.int 0)))) (sPar 2 3 (mCons (mVar 3) (mCons (mOp fMod (mVar 2) (mVar 3)) mNil))))
  (sRet (mTup (mCons (mOp fDiv (mVar 0) (mVar 2)) (mCons (mOp fDiv (mVar 1) (mVar 2)) mNil))))))
noncomputable def F_reduced : List D → Sto → Res D := runB 4 s_reduced
def N_plus : List Str := ["one", "other"]
noncomputable def s_plus : SM := (sRet (mCall 2 F_reduced (mCons (mOp fAdd (mOp fMul (mOp fIx (mVar 0) (mC (.int 0))) (mOp fIx (mVar 1) (mC (.int 1)))) (mOp fMul (mOp fIx (mVar 1) (mC (.int 0))) (mOp fIx (mVar 0) (mC (.int 1))))) (mCons (mOp fMul (mOp fIx (mVar 0) (mC (.int 1))) (mOp fIx (mVar 1) (mC (.int 1)))) mNil))))
noncomputable def F_plus : List D → Sto → Res D := runB 2 s_plus
def N_mean_of : List Str := ["thoughts", "weights", "found", "thought", "weight"]
noncomputable def s_mean_of : SM := (sSeq (sAsg (mC (.tup [.int 0, .int 1])) (gNm 2))
  (sSeq (sFor (mItA zp2 (mCons (mVar 0) (mCons (mVar 1) mNil))) (gUnp 2 (gsCons (gNm 3) (gsCons (gNm 4) gsNil))) (sAsg (mCall 2 F_plus (mCons (mVar 2) (mCons (mCall 2 F_reduced (mCons (mOp fMul (mOp fIx (mVar 3) (mC (.int 0))) (mVar 4)) (mCons (mOp fIx (mVar 3) (mC (.int 1))) mNil))) mNil))) (gNm 2)))
  (sRet (mCall 2 F_reduced (mCons (mOp fIx (mVar 2) (mC (.int 0))) (mCons (mOp fMul (mOp fIx (mVar 2) (mC (.int 1))) (mCB (f1 gSum) (mCons (mVar 1) mNil))) mNil))))))
noncomputable def F_mean_of : List D → Sto → Res D := runB 5 s_mean_of
def N_day_of : List Str := ["way", "thoughts", "row"]
noncomputable def s_day_of : SM := (sRet (mCB (f1 gTup) (mCons (mLc (mItV (mVar 0)) [2] (gNm 2) mYes (mCall 2 F_mean_of (mCons (mVar 1) (mCons (mVar 2) mNil)))) mNil)))
noncomputable def F_day_of : List D → Sto → Res D := runB 3 s_day_of
def N_is_integer : List Str := ["value"]
def s_is_integer : SM := (sRet (mAndV (mCB (fIsi isoC isoT) (mCons (mVar 0) (mCons (mC (.ty "int")) mNil))) (mNotV (mCB (fIsi isoC isoT) (mCons (mVar 0) (mCons (mC (.ty "bool")) mNil))))))
def F_is_integer : List D → Sto → Res D := runB 1 s_is_integer
def N_is_fraction : List Str := ["value"]
noncomputable def s_is_fraction : SM := (sSeq (sIf (mOrB (mNotB (mB (mCB (fIsi isoC isoT) (mCons (mVar 0) (mCons (mC (.ty "tuple")) mNil))))) (mOrB (mB (mOp fNe (mCB (f1 gLen) (mCons (mVar 0) mNil)) (mC (.int 2)))) (mOrB (mNotB (mB (mCall 1 F_is_integer (mCons (mOp fIx (mVar 0) (mC (.int 0))) mNil)))) (mNotB (mB (mCall 1 F_is_integer (mCons (mOp fIx (mVar 0) (mC (.int 1))) mNil))))))) (sRet (mC (.bl false))) sNil)
  (sRet (mAndV (mOp fGe (mOp fIx (mVar 0) (mC (.int 1))) (mC (.int 1))) (mOp fEq (mCall 2 F_reduced (mCons (mOp fIx (mVar 0) (mC (.int 0))) (mCons (mOp fIx (mVar 0) (mC (.int 1))) mNil))) (mVar 0)))))
noncomputable def F_is_fraction : List D → Sto → Res D := runB 1 s_is_fraction
def N_check_some : List Str := ["thoughts", "at", "thought"]
noncomputable def s_check_some : SM := (sSeq (sIf (mOrB (mNotB (mB (mCB (fIsi isoC isoT) (mCons (mVar 0) (mCons (mC (.ty "tuple")) mNil))))) (mB (mOp fEq (mCB (f1 gLen) (mCons (mVar 0) mNil)) (mC (.int 0))))) sStuck sNil)
  (sFor (mItA en1 (mCons (mVar 0) mNil)) (gUnp 2 (gsCons (gNm 1) (gsCons (gNm 2) gsNil))) (sIf (mNotB (mB (mCall 1 F_is_fraction (mCons (mVar 2) mNil)))) sStuck sNil)))
noncomputable def F_check_some : List D → Sto → Res D := runB 3 s_check_some
def N_Councild_lend : List Str := ["self"]
def s_Councild_lend : SM := (sRet (mCB (f1 gLen) (mCons (mUn (fFld ["Council"] "heads") (mVar 0)) mNil)))
def F_Councild_lend : List D → Sto → Res D := runB 1 s_Councild_lend
def N_check_thoughts : List Str := ["council", "thoughts"]
noncomputable def s_check_thoughts : SM := (sSeq (sIf (mOrB (mNotB (mB (mCB (fIsi isoC isoT) (mCons (mVar 1) (mCons (mC (.ty "tuple")) mNil))))) (mB (mOp fNe (mCB (f1 gLen) (mCons (mVar 1) mNil)) (mCR (lenF "Council" F_Councild_lend) (mCons (mVar 0) mNil))))) sStuck sNil)
  (sExpr (mCall 1 F_check_some (mCons (mVar 1) mNil))))
noncomputable def F_check_thoughts : List D → Sto → Res D := runB 2 s_check_thoughts
def N_check_council : List Str := ["value"]
def s_check_council : SM := (sIf (mNotB (mB (mCB (fIsi isoC isoT) (mCons (mVar 0) (mCons (mC (.gl "Council")) mNil))))) sStuck sNil)
def F_check_council : List D → Sto → Res D := runB 1 s_check_council
def N_check_both : List Str := ["council", "thoughts", "later"]
noncomputable def s_check_both : SM := (sSeq (sExpr (mCall 1 F_check_council (mCons (mVar 0) mNil)))
  (sSeq (sExpr (mCall 2 F_check_thoughts (mCons (mVar 0) (mCons (mVar 1) mNil))))
  (sExpr (mCall 2 F_check_thoughts (mCons (mVar 0) (mCons (mVar 2) mNil))))))
noncomputable def F_check_both : List D → Sto → Res D := runB 3 s_check_both
def N_fitting : List Str := ["council", "thoughts", "later", "at", "way"]
noncomputable def s_fitting : SM := (sSeq (sExpr (mCall 3 F_check_both (mCons (mVar 0) (mCons (mVar 1) (mCons (mVar 2) mNil)))))
  (sRet (mCB (f1 gTup) (mCons (mLc (mItA en1 (mCons (mProp "Council" F_Council_ways (mVar 0)) mNil)) [3, 4] (gUnp 2 (gsCons (gNm 3) (gsCons (gNm 4) gsNil))) (mB (mOp fEq (mCall 2 F_day_of (mCons (mVar 4) (mCons (mVar 1) mNil))) (mVar 2))) (mVar 3)) mNil))))
noncomputable def F_fitting : List D → Sto → Res D := runB 5 s_fitting
def N_low_l : List Str := ["_law_top", "_law_bottom", "_law_one", "_law_two"]
noncomputable def s_low_l : SM := (sSeq (sPar 2 3 (mCons (mVar 1) (mCons (mCB (f1 gAbs) (mCons (mVar 0) mNil)) mNil)))
  (sSeq (sWh (mB (mOp fGt (mVar 3) (mC (.int 0)))) (sPar 2 3 (mCons (mVar 3) (mCons (mOp fMod (mCB (f1 gInt) (mCons (mVar 2) mNil)) (mVar 3)) mNil))))
  (sRet (mTup (mCons (mOp fDiv (mVar 0) (mVar 2)) (mCons (mOp fDiv (mVar 1) (mVar 2)) mNil))))))
noncomputable def F_low_l : List D → Sto → Res D := runB 4 s_low_l
def N_mixed_l : List Str := ["_law_parts_here", "_law_row_here", "_law_found", "_law_k", "_law_top", "_law_bottom"]
noncomputable def s_mixed_l : SM := (sSeq (sAsg (mTup (mCons (mC (.int 0)) (mCons (mC (.int 1)) mNil))) (gNm 2))
  (sSeq (sFor (mItA rg1 (mCons (mCB (f1 gLen) (mCons (mVar 1) mNil)) mNil)) (gNm 3) (sSeq (sAsg (mOp fIx (mVar 0) (mVar 3)) (gUnp 2 (gsCons (gNm 4) (gsCons (gNm 5) gsNil))))
  (sIf (mB (mOp fGt (mOp fIx (mVar 1) (mVar 3)) (mC (.int 0)))) (sAsg (mCall 2 F_low_l (mCons (mOp fAdd (mOp fMul (mOp fIx (mVar 2) (mC (.int 0))) (mVar 5)) (mOp fMul (mOp fMul (mVar 4) (mOp fIx (mVar 1) (mVar 3))) (mOp fIx (mVar 2) (mC (.int 1))))) (mCons (mOp fMul (mOp fIx (mVar 2) (mC (.int 1))) (mVar 5)) mNil))) (gNm 2)) sNil)))
  (sRet (mCall 2 F_low_l (mCons (mOp fIx (mVar 2) (mC (.int 0))) (mCons (mOp fMul (mOp fIx (mVar 2) (mC (.int 1))) (mCB (f1 gSum) (mCons (mVar 1) mNil))) mNil))))))
noncomputable def F_mixed_l : List D → Sto → Res D := runB 6 s_mixed_l
def N_later_l : List Str := ["_law_talks", "_law_parts_here", "_law_road", "_law_at", "_law_row_here"]
noncomputable def s_later_l : SM := (sSeq (sFor (mItV (mVar 2)) (gNm 3) (sAsg (mCB (f1 gTup) (mCons (mLc (mItV (mOp fIx (mVar 0) (mVar 3))) [4] (gNm 4) mYes (mCall 2 F_mixed_l (mCons (mVar 1) (mCons (mVar 4) mNil)))) mNil)) (gNm 1)))
  (sRet (mVar 1)))
noncomputable def F_later_l : List D → Sto → Res D := runB 5 s_later_l
def N_Council_minds : List Str := ["self"]
def s_Council_minds : SM := (sRet (mUn (fFld ["Council"] "heads") (mVar 0)))
def F_Council_minds : List D → Sto → Res D := runB 1 s_Council_minds
def N_even_rows : List Str := ["way", "row", "weight"]
noncomputable def s_even_rows : SM := (sRet (mCB (f1 gTup) (mCons (mLc (mItV (mVar 0)) [1] (gNm 1) mYes (mCB (f1 gTup) (mCons (mLc (mItV (mVar 1)) [2] (gNm 2) mYes (mCall 2 F_reduced (mCons (mVar 2) (mCons (mCB (f1 gSum) (mCons (mVar 1) mNil)) mNil)))) mNil))) mNil)))
noncomputable def F_even_rows : List D → Sto → Res D := runB 3 s_even_rows
def N_ask : List Str := ["council", "base", "groups", "mind", "thoughts", "power", "way"]
noncomputable def s_ask : SM := (sSeq (sExpr (mCall 1 F_check_council (mCons (mVar 0) mNil)))
  (sSeq (sPar 1 2 (mCons (mC (.int 1)) (mCons (mUn gLenSetN (mLc (mItV (mProp "Council" F_Council_ways (mVar 0))) [6] (gNm 6) mYes (mCall 1 F_even_rows (mCons (mVar 6) mNil)))) mNil)))
  (sWh (mB (mC (.bl true))) (sSeq (sAsg (mTup (mCons (mLstC mNil) (mCons (mC (.int 1)) mNil))) (gUnp 2 (gsCons (gNm 4) (gsCons (gNm 5) gsNil))))
  (sSeq (sFor (mItV (mProp "Council" F_Council_minds (mVar 0))) (gNm 3) (sSeq (sExpr (mBM fAppend okLst (mVar 4) (mCons (mTup (mCons (mVar 5) (mCons (mC (.int 1)) mNil))) mNil)))
  (sAug fMul 5 (mVar 1))))
  (sSeq (sIf (mB (mOp fEq (mUn gLenSetN (mLc (mItV (mProp "Council" F_Council_ways (mVar 0))) [6] (gNm 6) mYes (mCall 2 F_day_of (mCons (mVar 6) (mCons (mCB (f1 gTup) (mCons (mVar 4) mNil)) mNil))))) (mVar 2))) (sRet (mCB (f1 gTup) (mCons (mVar 4) mNil))) sNil)
  (sAug fAdd 1 (mC (.int 1)))))))))
noncomputable def F_ask : List D → Sto → Res D := scop (runB 7 s_ask)
def N_thoughts_after : List Str := ["council", "thoughts", "word", "way"]
noncomputable def s_thoughts_after : SM := (sSeq (sFor (mItV (mVar 2)) (gNm 3) (sAsg (mCall 2 F_day_of (mCons (mOp fIx (mProp "Council" F_Council_ways (mVar 0)) (mVar 3)) (mCons (mVar 1) mNil))) (gNm 1)))
  (sRet (mVar 1)))
noncomputable def F_thoughts_after : List D → Sto → Res D := runB 4 s_thoughts_after
def N_is_within : List Str := ["value", "least", "most"]
def s_is_within : SM := (sRet (mAndV (mCall 1 F_is_integer (mCons (mVar 0) mNil)) (mChain fLe fLe (mVar 1) (mVar 0) (mVar 2))))
def F_is_within : List D → Sto → Res D := runB 3 s_is_within
def N_wrong_day : List Str := ["count", "word", "at", "way"]
def s_wrong_day : SM := (sSeq (sIf (mNotB (mB (mCB (fIsi isoC isoT) (mCons (mVar 1) (mCons (mC (.ty "tuple")) mNil))))) (sRet (mTup (mCons (mC .non) mNil))) sNil)
  (sSeq (sFor (mItA en1 (mCons (mVar 1) mNil)) (gUnp 2 (gsCons (gNm 2) (gsCons (gNm 3) gsNil))) (sIf (mOrB (mNotB (mB (mCall 3 F_is_within (mCons (mVar 3) (mCons (mC (.int 0)) (mCons (mOp fSub (mVar 0) (mC (.int 1))) mNil)))))) (mB (mOp fGe (mVar 2) (mC (.int 12))))) (sRet (mTup (mCons (mVar 2) mNil))) sNil))
  (sRet (mTup mNil))))
def F_wrong_day : List D → Sto → Res D := runB 4 s_wrong_day
def N_check_word : List Str := ["council", "word", "wrong"]
def s_check_word : SM := (sSeq (sExpr (mCall 1 F_check_council (mCons (mVar 0) mNil)))
  (sSeq (sAsg (mCall 2 F_wrong_day (mCons (mCB (f1 gLen) (mCons (mProp "Council" F_Council_ways (mVar 0)) mNil)) (mCons (mVar 1) mNil))) (gNm 2))
  (sIf (mB (mOp fNe (mVar 2) (mTup mNil))) sStuck sNil)))
def F_check_word : List D → Sto → Res D := runB 3 s_check_word
def N_after : List Str := ["council", "thoughts", "word"]
noncomputable def s_after : SM := (sSeq (sExpr (mCall 1 F_check_council (mCons (mVar 0) mNil)))
  (sSeq (sExpr (mCall 2 F_check_thoughts (mCons (mVar 0) (mCons (mVar 1) mNil))))
  (sSeq (sExpr (mCall 2 F_check_word (mCons (mVar 0) (mCons (mVar 2) mNil))))
  (sRet (mCall 3 F_thoughts_after (mCons (mVar 0) (mCons (mVar 1) (mCons (mVar 2) mNil))))))))
noncomputable def F_after : List D → Sto → Res D := runB 3 s_after
def N_alike : List Str := ["council", "rows", "found", "at", "row", "way", "place", "other"]
noncomputable def s_alike : SM := (sSeq (sExpr (mCall 1 F_check_council (mCons (mVar 0) mNil)))
  (sSeq (sPar 1 2 (mCons (mLc (mItV (mProp "Council" F_Council_ways (mVar 0))) [5] (gNm 5) mYes (mCall 1 F_even_rows (mCons (mVar 5) mNil))) (mCons (mLstC mNil) mNil)))
  (sSeq (sFor (mItA en1 (mCons (mVar 1) mNil)) (gUnp 2 (gsCons (gNm 3) (gsCons (gNm 4) gsNil))) (sIf (mB (mOp fNotIn (mVar 4) (mSl (mVar 1) oNone (oSome (mVar 3))))) (sExpr (mBM fAppend okLst (mVar 2) (mCons (mCB (f1 gTup) (mCons (mLc (mItA en1 (mCons (mVar 1) mNil)) [6, 7] (gUnp 2 (gsCons (gNm 6) (gsCons (gNm 7) gsNil))) (mB (mOp fEq (mVar 7) (mVar 4))) (mVar 6)) mNil)) mNil))) sNil))
  (sRet (mCB (f1 gTup) (mCons (mVar 2) mNil))))))
noncomputable def F_alike : List D → Sto → Res D := scop (runB 8 s_alike)
def N_is_like_l : List Str := ["_law_one", "_law_two", "_law_k", "_law_here", "_law_there", "_law_j"]
def s_is_like_l : SM := (sSeq (sFor (mItA rg1 (mCons (mCB (f1 gLen) (mCons (mVar 0) mNil)) mNil)) (gNm 2) (sSeq (sAsg (mTup (mCons (mCB (f1 gSum) (mCons (mOp fIx (mVar 0) (mVar 2)) mNil)) (mCons (mCB (f1 gSum) (mCons (mOp fIx (mVar 1) (mVar 2)) mNil)) mNil))) (gUnp 2 (gsCons (gNm 3) (gsCons (gNm 4) gsNil))))
  (sIf (mB (mOp fNe (mLc (mItA rg1 (mCons (mCB (f1 gLen) (mCons (mVar 0) mNil)) mNil)) [5] (gNm 5) (mB (mOp fNe (mOp fMul (mOp fIx (mOp fIx (mVar 0) (mVar 2)) (mVar 5)) (mVar 4)) (mOp fMul (mOp fIx (mOp fIx (mVar 1) (mVar 2)) (mVar 5)) (mVar 3)))) (mVar 5)) (mLst mNil))) (sRet (mC (.bl false))) sNil)))
  (sRet (mC (.bl true))))
def F_is_like_l : List D → Sto → Res D := runB 6 s_is_like_l
def N_is_row : List Str := ["value", "count", "weight"]
def s_is_row : SM := (sSeq (sIf (mOrB (mNotB (mB (mCB (fIsi isoC isoT) (mCons (mVar 0) (mCons (mC (.ty "tuple")) mNil))))) (mB (mOp fNe (mCB (f1 gLen) (mCons (mVar 0) mNil)) (mVar 1)))) (sRet (mC (.bl false))) sNil)
  (sRet (mAndV (mCB (f1 gAll) (mCons (mLc (mItV (mVar 0)) [2] (gNm 2) mYes (mCall 3 F_is_within (mCons (mVar 2) (mCons (mC (.int 0)) (mCons (mC (.int 1000000000)) mNil))))) mNil)) (mOp fGt (mCB (f1 gSum) (mCons (mVar 0) mNil)) (mC (.int 0))))))
def F_is_row : List D → Sto → Res D := runB 3 s_is_row
def N_is_way : List Str := ["value", "count", "row"]
def s_is_way : SM := (sRet (mAndV (mCB (fIsi isoC isoT) (mCons (mVar 0) (mCons (mC (.ty "tuple")) mNil))) (mAndV (mOp fEq (mCB (f1 gLen) (mCons (mVar 0) mNil)) (mVar 1)) (mCB (f1 gAll) (mCons (mLc (mItV (mVar 0)) [2] (gNm 2) mYes (mCall 2 F_is_row (mCons (mVar 2) (mCons (mVar 1) mNil)))) mNil)))))
def F_is_way : List D → Sto → Res D := runB 3 s_is_way
def N_wrong_way : List Str := ["ways", "count", "at", "way"]
def s_wrong_way : SM := (sSeq (sIf (mOrB (mNotB (mB (mCB (fIsi isoC isoT) (mCons (mVar 0) (mCons (mC (.ty "tuple")) mNil))))) (mB (mOp fEq (mCB (f1 gLen) (mCons (mVar 0) mNil)) (mC (.int 0))))) (sRet (mTup (mCons (mC .non) mNil))) sNil)
  (sSeq (sFor (mItA en1 (mCons (mVar 0) mNil)) (gUnp 2 (gsCons (gNm 2) (gsCons (gNm 3) gsNil))) (sIf (mOrB (mNotB (mB (mCall 2 F_is_way (mCons (mVar 3) (mCons (mVar 1) mNil))))) (mB (mOp fGe (mVar 2) (mC (.int 6))))) (sRet (mTup (mCons (mVar 2) mNil))) sNil))
  (sRet (mTup mNil))))
def F_wrong_way : List D → Sto → Res D := runB 4 s_wrong_way
def N_is_name : List Str := ["value", "sign"]
def s_is_name : SM := (sSeq (sIf (mOrB (mNotB (mB (mCB (fIsi isoC isoT) (mCons (mVar 0) (mCons (mC (.ty "str")) mNil))))) (mNotB (mB (mChain fLe fLe (mC (.int 1)) (mCB (f1 gLen) (mCons (mVar 0) mNil)) (mC (.int 8)))))) (sRet (mC (.bl false))) sNil)
  (sRet (mAndV (mOp fIn (mOp fIx (mVar 0) (mC (.int 0))) (mC (.str "abcdefghijklmnopqrstuvwxyz"))) (mCB (f1 gAll) (mCons (mLc (mItV (mVar 0)) [1] (gNm 1) mYes (mOrV (mOp fIn (mVar 1) (mC (.str "abcdefghijklmnopqrstuvwxyz"))) (mOp fIn (mVar 1) (mC (.str "0123456789"))))) mNil)))))
def F_is_name : List D → Sto → Res D := runB 2 s_is_name
def N_wrong_mind : List Str := ["minds", "at", "name"]
def s_wrong_mind : SM := (sSeq (sIf (mOrB (mNotB (mB (mCB (fIsi isoC isoT) (mCons (mVar 0) (mCons (mC (.ty "tuple")) mNil))))) (mB (mOp fEq (mCB (f1 gLen) (mCons (mVar 0) mNil)) (mC (.int 0))))) (sRet (mTup (mCons (mC .non) mNil))) sNil)
  (sSeq (sFor (mItA en1 (mCons (mVar 0) mNil)) (gUnp 2 (gsCons (gNm 1) (gsCons (gNm 2) gsNil))) (sIf (mOrB (mNotB (mB (mCall 1 F_is_name (mCons (mVar 2) mNil)))) (mOrB (mB (mOp fGe (mVar 1) (mC (.int 6)))) (mB (mOp fIn (mVar 2) (mSl (mVar 0) oNone (oSome (mVar 1))))))) (sRet (mTup (mCons (mVar 1) mNil))) sNil))
  (sRet (mTup mNil))))
def F_wrong_mind : List D → Sto → Res D := runB 3 s_wrong_mind
def N_Councild_initd : List Str := ["self", "minds", "ways", "wrong"]
def s_Councild_initd : SM := (sSeq (sAsg (mCall 1 F_wrong_mind (mCons (mVar 1) mNil)) (gNm 3))
  (sSeq (sIf (mB (mOp fNe (mVar 3) (mTup mNil))) sStuck sNil)
  (sSeq (sAsg (mCall 2 F_wrong_way (mCons (mVar 2) (mCons (mCB (f1 gLen) (mCons (mVar 1) mNil)) mNil))) (gNm 3))
  (sSeq (sIf (mB (mOp fNe (mVar 3) (mTup mNil))) sStuck sNil)
  (sSeq (sFldM ["Council"] "heads" (mVar 0) (mVar 1))
  (sFldM ["Council"] "tables" (mVar 0) (mVar 2)))))))
def F_Councild_initd : List D → Sto → Res D := runB 4 s_Councild_initd
def N_sip_l : List Str := ["_law_jug_here", "_law_most", "_law_digit"]
def s_sip_l : SM := (sSeq (sIf (mB (mOp fGt (mOp fIx (mVar 0) (mC (.int 0))) (mC (.int 0)))) (sSeq (sAsg (mCB fDivmod (mCons (mOp fIx (mVar 0) (mC (.int 0))) (mCons (mVar 1) mNil))) (gUnp 2 (gsCons (gSubM fSet (mVar 0) (mC (.int 0))) (gsCons (gNm 2) gsNil))))
  (sRet (mVar 2))) sNil)
  (sSeq (sAsg (mOp fAdd (mOp fIx (mVar 0) (mC (.int 2))) (mC (.int 1))) (gSubM fSet (mVar 0) (mC (.int 2))))
  (sSeq (sAsg (mOp fMod (mCB (f1 gInt) (mCons (mOp fAdd (mOp fMul (mOp fIx (mVar 0) (mC (.int 1))) (mC (.int 43003))) (mOp fMul (mC (.int 29009)) (mOp fIx (mVar 0) (mC (.int 2))))) mNil)) (mC (.int 2147483269))) (gSubM fSet (mVar 0) (mC (.int 1))))
  (sRet (mOp fMod (mCB (f1 gInt) (mCons (mOp fDiv (mOp fIx (mVar 0) (mC (.int 1))) (mC (.int 1024))) mNil)) (mVar 1))))))
def F_sip_l : List D → Sto → Res D := runB 3 s_sip_l
def N_many_talks_l : List Str := ["_law_jug_here", "_law_talks", "_law_found", "_law_again", "_law_talk_here", "_law_rows_here", "_law_row_here", "_law_by", "_law_one"]
def s_many_talks_l : SM := (sSeq (sAsg (mLstC1 (mVar 1)) (gNm 2))
  (sSeq (sFor (mItA rg1 (mCons (mCall 2 F_sip_l (mCons (mVar 0) (mCons (mC (.int 3)) mNil))) mNil)) (gNm 3) (sSeq (sAsg (mOp fIx (mVar 1) (mCall 2 F_sip_l (mCons (mVar 0) (mCons (mCB (f1 gLen) (mCons (mVar 1) mNil)) mNil)))) (gNm 4))
  (sSeq (sAsg (mLstC mNil) (gNm 5))
  (sSeq (sFor (mItV (mVar 4)) (gNm 6) (sSeq (sAsg (mIf (mB (mOp fLt (mCB (f1 gMaxS) (mCons (mVar 6) mNil)) (mOp fPow (mC (.int 10)) (mC (.int 8))))) (mOp fAdd (mC (.int 1)) (mCall 2 F_sip_l (mCons (mVar 0) (mCons (mC (.int 4)) mNil)))) (mC (.int 1))) (gNm 7))
  (sExpr (mBM fAppend okLst (mVar 5) (mCons (mCB (f1 gTup) (mCons (mLc (mItV (mVar 6)) [8] (gNm 8) mYes (mOp fMul (mVar 7) (mVar 8))) mNil)) mNil)))))
  (sSeq (sIf (mAndB (mB (mOp fEq (mCall 2 F_sip_l (mCons (mVar 0) (mCons (mC (.int 3)) mNil))) (mC (.int 0)))) (mB (mOp fLt (mOp fIx (mOp fIx (mVar 5) (mUn fNeg (mC (.int 1)))) (mC (.int 0))) (mOp fPow (mC (.int 10)) (mC (.int 9)))))) (sAsg (mOp fAdd (mTup (mCons (mOp fAdd (mOp fIx (mOp fIx (mVar 5) (mUn fNeg (mC (.int 1)))) (mC (.int 0))) (mC (.int 1))) mNil)) (mSl (mOp fIx (mVar 5) (mUn fNeg (mC (.int 1)))) (oSome (mC (.int 1))) oNone)) (gSubM fSet (mVar 5) (mUn fNeg (mC (.int 1))))) sNil)
  (sExpr (mBM fAppend okLst (mVar 2) (mCons (mCB (f1 gTup) (mCons (mVar 5) mNil)) mNil))))))))
  (sRet (mCB (f1 gTup) (mCons (mVar 2) mNil)))))
def F_many_talks_l : List D → Sto → Res D := scop (runB 9 s_many_talks_l)
def N_row_l : List Str := ["_law_jug_here", "_law_size", "_law_row_here", "_law_k"]
def s_row_l : SM := (sSeq (sAsg (mLcC (mItA rg1 (mCons (mVar 1) mNil)) [3] (gNm 3) mYes (mOp fIx (mLst (mCons (mC (.int 0)) (mCons (mC (.int 0)) (mCons (mC (.int 1)) (mCons (mC (.int 1)) (mCons (mC (.int 2)) (mCons (mC (.int 3)) (mCons (mC (.int 7)) mNil)))))))) (mCall 2 F_sip_l (mCons (mVar 0) (mCons (mC (.int 7)) mNil))))) (gNm 2))
  (sSeq (sIf (mB (mOp fEq (mCB (f1 gSum) (mCons (mVar 2) mNil)) (mC (.int 0)))) (sAsg (mOp fIx (mLst (mCons (mC (.int 1)) (mCons (mC (.int 2)) (mCons (mOp fPow (mC (.int 10)) (mC (.int 9))) mNil)))) (mCall 2 F_sip_l (mCons (mVar 0) (mCons (mC (.int 3)) mNil)))) (gSubM fSet (mVar 2) (mCall 2 F_sip_l (mCons (mVar 0) (mCons (mVar 1) mNil))))) sNil)
  (sRet (mCB (f1 gTup) (mCons (mVar 2) mNil)))))
def F_row_l : List D → Sto → Res D := scop (runB 4 s_row_l)
def N_talk_l : List Str := ["_law_jug_here", "_law_size", "_law_k"]
def s_talk_l : SM := (sRet (mCB (f1 gTup) (mCons (mLc (mItA rg1 (mCons (mVar 1) mNil)) [2] (gNm 2) mYes (mCall 2 F_row_l (mCons (mVar 0) (mCons (mVar 1) mNil)))) mNil)))
def F_talk_l : List D → Sto → Res D := runB 3 s_talk_l
def N_pair_l : List Str := ["_law_jug_here", "_law_most_here", "_law_size", "_law_pool", "_law_heads_here", "_law_k"]
def s_pair_l : SM := (sSeq (sAsg (mOp fAdd (mC (.int 1)) (mCall 2 F_sip_l (mCons (mVar 0) (mCons (mVar 1) mNil)))) (gNm 2))
  (sSeq (sAsg (mLstC (mCons (mC (.str "ann")) (mCons (mC (.str "bob")) (mCons (mC (.str "cyd")) (mCons (mC (.str "d2")) (mCons (mC (.str "e")) (mCons (mC (.str "z9999999")) (mCons (mC (.str "abe")) (mCons (mC (.str "x")) mNil))))))))) (gNm 3))
  (sSeq (sAsg (mLstC mNil) (gNm 4))
  (sSeq (sFor (mItA rg1 (mCons (mVar 2) mNil)) (gNm 5) (sExpr (mBM fAppend okLst (mVar 4) (mCons (mBM fPopAt okLst (mVar 3) (mCons (mCall 2 F_sip_l (mCons (mVar 0) (mCons (mCB (f1 gLen) (mCons (mVar 3) mNil)) mNil))) mNil)) mNil))))
  (sRet (mLst (mCons (mCB (f1 gTup) (mCons (mVar 4) mNil)) (mCons (mCB (f1 gTup) (mCons (mLc (mItA rg1 (mCons (mOp fAdd (mC (.int 1)) (mCall 2 F_sip_l (mCons (mVar 0) (mCons (mC (.int 4)) mNil)))) mNil)) [5] (gNm 5) mYes (mCall 2 F_talk_l (mCons (mVar 0) (mCons (mVar 2) mNil)))) mNil)) mNil))))))))
def F_pair_l : List D → Sto → Res D := scop (runB 6 s_pair_l)
def N_right_l : List Str := ["_law_jug_here", "_law_again", "_law_talks", "_law_at", "_law_told", "_law_goals", "_law_heads_here", "_law_base", "_law_due", "_law_j", "_law_lot"]
noncomputable def s_right_l : SM := (sSeq (sFor (mItA rg1 (mCons (mC (.int 4)) mNil)) (gNm 1) (sSeq (sAsg (mCall 2 F_pair_l (mCons (mVar 0) (mCons (mC (.int 6)) mNil))) (gUnp 2 (gsCons (gNm 6) (gsCons (gNm 2) gsNil))))
  (sSeq (sAsg (mCall 2 F_many_talks_l (mCons (mVar 0) (mCons (mVar 2) mNil))) (gNm 2))
  (sSeq (sPar 7 8 (mCons (mMake "Council" true 2 F_Councild_initd (mCons (mVar 6) (mCons (mVar 2) mNil))) (mCons (mLstC mNil) mNil)))
  (sSeq (sFor (mItA rg1 (mCons (mCB (f1 gLen) (mCons (mVar 2) mNil)) mNil)) (gNm 3) (sIf (mB (mOp fEq (mLc (mItV (mVar 8)) [10] (gNm 10) (mB (mOp fIn (mVar 3) (mVar 10))) (mVar 10)) (mLst mNil))) (sExpr (mBM fAppend okLst (mVar 8) (mCons (mCB (f1 gTup) (mCons (mLc (mItA rg1 (mCons (mCB (f1 gLen) (mCons (mVar 2) mNil)) mNil)) [9] (gNm 9) (mB (mCall 2 F_is_like_l (mCons (mOp fIx (mVar 2) (mVar 3)) (mCons (mOp fIx (mVar 2) (mVar 9)) mNil)))) (mVar 9)) mNil)) mNil))) sNil))
  (sSeq (sIf (mB (mOp fNe (mCB (f1 gRepr) (mCons (mLst (mCons (mCall 1 F_alike (mCons (mVar 7) mNil)) (mCons (mCallK 1 [0] F_alike (mCons (mVar 7) mNil)) mNil))) mNil)) (mCB (f1 gRepr) (mCons (mOp fMul (mLst (mCons (mCB (f1 gTup) (mCons (mVar 8) mNil)) mNil)) (mC (.int 2))) mNil)))) (sRet (mC (.bl false))) sNil)
  (sSeq (sAsg (mCall 1 F_ask (mCons (mVar 7) mNil)) (gNm 4))
  (sSeq (sIf (mOrB (mNotB (mB (mCB (fIsi isoC isoT) (mCons (mVar 4) (mCons (mC (.ty "tuple")) mNil))))) (mOrB (mB (mOp fNe (mCB (f1 gLen) (mCons (mVar 4) mNil)) (mCB (f1 gLen) (mCons (mVar 6) mNil)))) (mB (mOp fNe (mCall 3 F_after (mCons (mVar 7) (mCons (mVar 4) (mCons (mTup mNil) mNil)))) (mVar 4))))) (sRet (mC (.bl false))) sNil)
  (sSeq (sIf (mB (mOp fNe (mCallK 1 [0] F_ask (mCons (mVar 7) mNil)) (mVar 4))) (sRet (mC (.bl false))) sNil)
  (sSeq (sAsg (mLc (mItA rg1 (mCons (mCB (f1 gLen) (mCons (mVar 2) mNil)) mNil)) [3] (gNm 3) mYes (mCall 3 F_later_l (mCons (mVar 2) (mCons (mVar 4) (mCons (mTup (mCons (mVar 3) mNil)) mNil))))) (gNm 5))
  (sFor (mItA rg1 (mCons (mCB (f1 gLen) (mCons (mVar 2) mNil)) mNil)) (gNm 3) (sSeq (sFor (mItA rg1 (mCons (mCB (f1 gLen) (mCons (mVar 2) mNil)) mNil)) (gNm 9) (sIf (mB (mOp fNe (mOp fEq (mOp fIx (mVar 5) (mVar 3)) (mOp fIx (mVar 5) (mVar 9))) (mOp fNe (mLc (mItV (mVar 8)) [10] (gNm 10) (mAndB (mB (mOp fIn (mVar 3) (mVar 10))) (mB (mOp fIn (mVar 9) (mVar 10)))) (mVar 10)) (mLst mNil)))) (sRet (mC (.bl false))) sNil))
  (sIf (mB (mOp fNe (mCall 3 F_fitting (mCons (mVar 7) (mCons (mVar 4) (mCons (mOp fIx (mVar 5) (mVar 3)) mNil)))) (mOp fIx (mLc (mItV (mVar 8)) [10] (gNm 10) (mB (mOp fIn (mVar 3) (mVar 10))) (mVar 10)) (mC (.int 0))))) (sRet (mC (.bl false))) sNil)))))))))))))
  (sRet (mC (.bl true))))
noncomputable def F_right_l : List D → Sto → Res D := scop (runB 11 s_right_l)
def N_quiet_l : List Str := ["_law_jug_here", "_law_is_right"]
noncomputable def s_quiet_l : SM := (sSeq (sTryQ (sAsg (mCall 1 F_right_l (mCons (mVar 0) mNil)) (gNm 1)))
  (sRet (mVar 1)))
noncomputable def F_quiet_l : List D → Sto → Res D := runB 2 s_quiet_l
def N_jug_l : List Str := ["_law_script", "_law_at", "_law_figure", "_law_seed", "_law_each"]
def s_jug_l : SM := (sSeq (sAsg (mIf (mB (mOp fLt (mVar 1) (mCB (f1 gLen) (mCons (mVar 0) mNil)))) (mOp fIx (mVar 0) (mVar 1)) (mOp fAdd (mOp fMul (mC (.int 53)) (mVar 1)) (mC (.int 11)))) (gNm 2))
  (sSeq (sAsg (mOp fAdd (mC (.int 122949823)) (mOp fMul (mC (.int 37013)) (mVar 1))) (gNm 3))
  (sSeq (sFor (mItV (mOp fAdd (mLst (mCons (mVar 2) mNil)) (mSl (mVar 0) oNone (oSome (mC (.int 6)))))) (gNm 4) (sAsg (mOp fMod (mCB (f1 gInt) (mCons (mOp fAdd (mOp fMul (mVar 3) (mC (.int 59063))) (mVar 4)) mNil)) (mC (.int 2147483269))) (gNm 3)))
  (sRet (mLstC (mCons (mIf (mB (mOp fGe (mCB (f1 gAbs) (mCons (mVar 2) mNil)) (mOp fPow (mC (.int 10)) (mC (.int 18))))) (mCB (f1 gAbs) (mCons (mVar 2) mNil)) (mC (.int 0))) (mCons (mVar 3) (mCons (mC (.int 0)) mNil))))))))
def F_jug_l : List D → Sto → Res D := runB 5 s_jug_l
def N_law : List Str := ["_law_script", "_law_at"]
noncomputable def s_law : SM := (sRet (mCB (f1 gAll) (mCons (mLc (mItA rg1 (mCons (mCB fMax2 (mCons (mC (.int 2)) (mCons (mCB fMin2 (mCons (mCB (f1 gLen) (mCons (mVar 0) mNil)) (mCons (mC (.int 5)) mNil))) mNil))) mNil)) [1] (gNm 1) mYes (mCall 1 F_quiet_l (mCons (mCall 2 F_jug_l (mCons (mVar 0) (mCons (mVar 1) mNil))) mNil))) mNil)))
noncomputable def F_law : List D → Sto → Res D := runB 2 s_law
end Ag.k21

namespace Ag.k21
open PySem

/-! the rules in one bundle -/
theorem stdQ : (type_of% @p_par) ∧ (type_of% @p_par3) ∧ (type_of% @p_asgN) ∧ (type_of% @p_asg) ∧ (type_of% @p_expr) ∧ (type_of% @p_ret) ∧ (type_of% @p_nil) ∧ (type_of% @p_pass) ∧ (type_of% @p_if) ∧ (type_of% @p_for) ∧ (type_of% @p_try) ∧ (type_of% @q_cons) ∧ (type_of% @q_nil) ∧ (type_of% @q_cb) ∧ (type_of% @q_cr) ∧ (type_of% @q_call) ∧ (type_of% @q_callK) ∧ (type_of% @q_prop) ∧ (type_of% @q_make) ∧ (type_of% @q_bm) ∧ (type_of% @q_var) ∧ (type_of% @q_c) ∧ (type_of% @q_op) ∧ (type_of% @q_un) ∧ (type_of% @q_b) ∧ (type_of% @q_andB) ∧ (type_of% @q_orB) ∧ (type_of% @q_notB) ∧ (type_of% @q_andV) ∧ (type_of% @q_orV) ∧ (type_of% @q_notV) ∧ (type_of% @q_if) ∧ (type_of% @q_chain) ∧ (type_of% @q_tup) ∧ (type_of% @q_lst) ∧ (type_of% @q_lstC) ∧ (type_of% @q_lc) ∧ (type_of% @q_lcC) ∧ (type_of% @q_lc2) ∧ (type_of% @q_itV) ∧ (type_of% @q_itA) ∧ (type_of% @q_sl) ∧ (type_of% @q_oN) ∧ (type_of% @q_oS) ∧ (type_of% @sl_0) ∧ (type_of% @sl_s) ∧ (type_of% @os_some) ∧ (type_of% @os_if) ∧ (type_of% @f_1) ∧ (type_of% @ex_pair) ∧ (type_of% @ex_trip) ∧ (type_of% @g_unpS) ∧ (type_of% @gs_consS) ∧ (type_of% @gs_nilS) ∧ (type_of% @g_nm) ∧ (type_of% @g_subS) ∧ (type_of% @sq_tup) ∧ (type_of% @sq_lst) ∧ (type_of% @b_bl) ∧ (type_of% @r_ok) ∧ (type_of% @i_int) ∧ (type_of% @sl_tup) ∧ (type_of% @sl_lst) ∧ (type_of% @it_tup) ∧ (type_of% @it_lst) ∧ (type_of% @it_scr) ∧ (type_of% @it_word) ∧ (type_of% @it_row) ∧ (type_of% @it_way) ∧ (type_of% @w_0) ∧ (type_of% @w_s) ∧ (type_of% @n_tup) ∧ (type_of% @n_lst) ∧ (type_of% @n_scr) ∧ (type_of% @n_word) ∧ (type_of% @n_row) ∧ (type_of% @n_way) ∧ (type_of% @eq_int) ∧ (type_of% @ne_int) ∧ (type_of% @c_int) ∧ (type_of% @en_tup) ∧ (type_of% @en_lst) ∧ (type_of% @zp_tup) ∧ (type_of% @zp_lst) ∧ (type_of% @zp_mix) ∧ (type_of% @m_yes) ∧ (type_of% @t_lst) ∧ (type_of% @t_tup) ∧ (type_of% @bind_s) ∧ (type_of% @a_int) ∧ (type_of% @s_int) ∧ (type_of% @g_ii) ∧ (type_of% @g_ib) ∧ (type_of% @is_non) ∧ (type_of% @isnt_non) ∧ (type_of% @rv_tup) ∧ (type_of% @rv_lst) := ⟨@p_par, @p_par3, @p_asgN, @p_asg, @p_expr, @p_ret, @p_nil, @p_pass, @p_if, @p_for, @p_try, @q_cons, @q_nil, @q_cb, @q_cr, @q_call, @q_callK, @q_prop, @q_make, @q_bm, @q_var, @q_c, @q_op, @q_un, @q_b, @q_andB, @q_orB, @q_notB, @q_andV, @q_orV, @q_notV, @q_if, @q_chain, @q_tup, @q_lst, @q_lstC, @q_lc, @q_lcC, @q_lc2, @q_itV, @q_itA, @q_sl, @q_oN, @q_oS, @sl_0, @sl_s, @os_some, @os_if, @f_1, @ex_pair, @ex_trip, @g_unpS, @gs_consS, @gs_nilS, @g_nm, @g_subS, @sq_tup, @sq_lst, @b_bl, @r_ok, @i_int, @sl_tup, @sl_lst, @it_tup, @it_lst, @it_scr, @it_word, @it_row, @it_way, @w_0, @w_s, @n_tup, @n_lst, @n_scr, @n_word, @n_row, @n_way, @eq_int, @ne_int, @c_int, @en_tup, @en_lst, @zp_tup, @zp_lst, @zp_mix, @m_yes, @t_lst, @t_tup, @bind_s, @a_int, @s_int, @g_ii, @g_ib, @is_non, @isnt_non, @rv_tup, @rv_lst⟩

theorem reduced_ok (t b : Int) (S : Sto) (hb : 0 < b) {a : Nat} (hs : b.natAbs < 2 ^ a) (ha : 0 < a) (h9 : a ≤ 9000) : F_reduced [.int t, .int b] S = .ok (frac ((t : Rat) / (b : Rat))) S := by
  unfold F_reduced
  refine sat_eq (f_run.mpr ?_)
  show (s_reduced [some (.int t), some (.int b), none, none] S).sat _ _
  unfold s_reduced
  simp only [p_seq, p_par, q_cons, q_nil, q_cb, q_var, sl_0, sl_s, os_some, f1, gAbs, ex_pair, List.set_cons_zero, List.set_cons_succ]
  refine wh_inv (fun n en S' => ∃ x y : Int, en = [some (.int t), some (.int b), some (.int x), some (.int y)] ∧ S' = S ∧ 0 ≤ x ∧ 0 ≤ y ∧ (0 < x ∨ 0 < y) ∧ x.natAbs.gcd y.natAbs = t.natAbs.gcd b.natAbs ∧ n = y.natAbs) ?_ (n := b.natAbs) ⟨if t < 0 then -t else t, b, rfl, rfl, by split <;> omega, by omega, by omega, by split <;> simp, rfl⟩
  rintro n en S' ⟨x, y, rfl, rfl, hx, hy, hxy, hg, rfl⟩
  simp only [q_b, q_op, q_var, q_c, sl_0, sl_s, os_some, ne_int, bOf, p_par, q_cons, q_nil, ex_pair, fMod, os_if, p_ret, q_tup, fDiv, List.set_cons_zero, List.set_cons_succ, List.length_cons, List.length_nil]
  by_cases hy0 : y = 0
  · subst hy0
    simp only [ne_eq, not_true_eq_false, decide_false, Bool.false_eq_true, if_false]
    have hx0 : 0 < x := by omega
    have e : x = ((t.natAbs.gcd b.natAbs : Nat) : Int) := by
      rw [← hg]; simp; omega
    have hle : x.natAbs ≤ b.natAbs := by
      rw [e]; simp only [Int.natAbs_natCast]
      exact Nat.gcd_le_right _ (by omega)
    have hd : divOk x = true := divOk_of hx0 (Nat.lt_of_le_of_lt hle hs) ha h9
    exact ⟨hd, hd, by decide, div_top hb e, trivial⟩
  · have hy1 : 0 < y := by omega
    simp only [ne_eq, hy0, not_false_eq_true, decide_true, if_true]
    refine ⟨hy1, (x % y).natAbs, ?_, y, x % y, rfl, trivial, hy, Int.emod_nonneg _ hy0, .inl hy1, ?_, rfl⟩
    · have h1 := Int.emod_nonneg x hy0
      have h2 := Int.emod_lt_of_pos x hy1
      omega
    · rw [Nat.gcd_comm, gcd_step x y hx hy1, hg]
theorem low_ok (t b : Int) (S : Sto) (hb : 0 < b) {a : Nat} (hs : b.natAbs < 2 ^ a) (ha : 0 < a) (h9 : a ≤ 9000) : F_low_l [.int t, .int b] S = .ok (frac ((t : Rat) / (b : Rat))) S := by
  unfold F_low_l
  refine sat_eq (f_run.mpr ?_)
  show (s_low_l [some (.int t), some (.int b), none, none] S).sat _ _
  unfold s_low_l
  simp only [p_seq, p_par, q_cons, q_nil, q_cb, q_var, sl_0, sl_s, os_some, f1, gAbs, ex_pair, List.set_cons_zero, List.set_cons_succ]
  refine wh_inv (fun n en S' => ∃ x y : Int, en = [some (.int t), some (.int b), some (.int x), some (.int y)] ∧ S' = S ∧ 0 ≤ x ∧ 0 ≤ y ∧ (0 < x ∨ 0 < y) ∧ x.natAbs.gcd y.natAbs = t.natAbs.gcd b.natAbs ∧ n = y.natAbs) ?_ (n := t.natAbs) ⟨b, if t < 0 then -t else t, rfl, rfl, by omega, by split <;> omega, by omega, by rw [Nat.gcd_comm]; split <;> simp, by split <;> omega⟩
  rintro n en S' ⟨x, y, rfl, rfl, hx, hy, hxy, hg, rfl⟩
  simp only [q_b, q_op, q_cb, q_var, q_c, sl_0, sl_s, os_some, fGt, cmpI, bOf, p_par, q_cons, q_nil, ex_pair, fMod, f1, gInt, os_if, p_ret, q_tup, fDiv, List.set_cons_zero, List.set_cons_succ, List.length_cons, List.length_nil]
  by_cases hy0 : y = 0
  · subst hy0
    simp only [Int.lt_irrefl, decide_false, Bool.false_eq_true, if_false]
    have hx0 : 0 < x := by omega
    have e : x = ((t.natAbs.gcd b.natAbs : Nat) : Int) := by
      rw [← hg]; simp; omega
    have hle : x.natAbs ≤ b.natAbs := by
      rw [e]; simp only [Int.natAbs_natCast]
      exact Nat.gcd_le_right _ (by omega)
    have hd : divOk x = true := divOk_of hx0 (Nat.lt_of_le_of_lt hle hs) ha h9
    exact ⟨hd, hd, by decide, div_top hb e, trivial⟩
  · have hy1 : 0 < y := by omega
    simp only [hy1, decide_true, if_true]
    refine ⟨trivial, (x % y).natAbs, ?_, y, x % y, rfl, trivial, hy, Int.emod_nonneg _ hy0, .inl hy1, ?_, rfl⟩
    · have h1 := Int.emod_nonneg x hy0
      have h2 := Int.emod_lt_of_pos x hy1
      omega
    · rw [Nat.gcd_comm, gcd_step x y hx hy1, hg]
theorem plus_ok (x y : Rat) (S : Sto) {a : Nat} (hx : x.num.natAbs < 2 ^ a) (hy : y.num.natAbs < 2 ^ a) (dx : x.den < 2 ^ a) (dy : y.den < 2 ^ a) (ha : 0 < a) (h9 : a ≤ 4500) : F_plus [frac x, frac y] S = .ok (frac (x + y)) S := by
  unfold F_plus
  refine sat_eq (f_run.mpr ?_)
  show (s_plus [some (frac x), some (frac y)] S).sat _ _
  unfold s_plus
  have px := den_pos x
  have py := den_pos y
  have m1 : mulOk x.num (y.den : Nat) = true := mulOk_of hx dy ha ha (by omega)
  have m2 : mulOk y.num (x.den : Nat) = true := mulOk_of hy dx ha ha (by omega)
  have m3 : mulOk (x.den : Nat) (y.den : Nat) = true := mulOk_of (x := (x.den : Nat)) dx dy ha ha (by omega)
  have pp : 0 < ((x.den : Nat) : Int) * ((y.den : Nat) : Int) := Int.mul_pos px py
  have sz : (((x.den : Nat) : Int) * ((y.den : Nat) : Int)).natAbs < 2 ^ (a + a) := natAbs_mul_lt dx dy
  simp only [p_ret, q_call, q_cons, q_nil, q_op, q_var, q_c, sl_0, sl_s, os_some, frac, ix_0, ix_1, fMul, os_if, m1, m2, m3, fAdd, true_and, List.length_cons, List.length_nil]
  refine eq_sat (reduced_ok _ _ S pp sz (by omega) (by omega)) ⟨?_, rfl⟩
  show frac _ = frac _
  congr 1
  have nx : ((x.den : Nat) : Rat) ≠ 0 := by have := x.den_nz; simpa using this
  have ny : ((y.den : Nat) : Rat) ≠ 0 := by have := y.den_nz; simpa using this
  have ex := num_den x
  have ey := num_den y
  simp only [Rat.intCast_add, Rat.intCast_mul, Rat.intCast_natCast]
  generalize (x.num : Rat) = xn at *
  generalize (y.num : Rat) = yn at *
  generalize ((x.den : Nat) : Rat) = xd at *
  generalize ((y.den : Nat) : Rat) = yd at *
  subst ex ey
  grind

variable {ts : List Rat} {ws : List Int} {M B a : Nat}
theorem mean_ok (h : Day ts ws M B a) (S : Sto) : F_mean_of [.tup (ts.map frac), .tup (ws.map .int)] S = .ok (frac (dot ts ws / (ws.sum : Rat))) S := by
  unfold F_mean_of
  refine sat_eq (f_run.mpr ?_)
  show (s_mean_of [some (.tup (ts.map frac)), some (.tup (ws.map .int)), none, none, none] S).sat _ _
  unfold s_mean_of
  simp only [p_seq, p_asgN, q_c, List.set_cons_zero, List.set_cons_succ, p_for, q_itA, q_cons, q_nil, q_var, sl_0, sl_s, os_some, zp2]
  refine for_inv (li_zp fun d hd => by obtain ⟨w, _, rfl⟩ := List.mem_map.mp hd; rfl) (fun k en S' => ∃ x y, en = [some (.tup (ts.map frac)), some (.tup (ws.map .int)), some (frac (dot (ts.take k) (ws.take k))), x, y] ∧ S' = S) ?_ ?_ ⟨none, none, rfl, rfl⟩
  · rintro k d en S' hd ⟨x, y, rfl, rfl⟩
    have hk : k < ts.length := by
      have := (List.getElem?_eq_some_iff.mp hd).1
      simp only [List.length_zipWith, List.length_map, h.len, Nat.min_self] at this
      exact this
    have h1 : ts[k]? = some ts[k] := List.getElem?_eq_getElem hk
    have h2 : ws[k]? = some (ws[k]'(by rw [h.len]; omega)) := List.getElem?_eq_getElem (by rw [h.len]; omega)
    generalize ws[k]'(by rw [h.len]; omega) = w at h2
    have ed : d = .tup [frac ts[k], .int w] := by
      rw [List.getElem?_zipWith, List.getElem?_map, List.getElem?_map, h1, h2] at hd
      simpa using hd.symm
    subst ed
    obtain ⟨o1, o2, o3, o4⟩ := h.one (List.mem_of_getElem? h1) (List.mem_of_getElem? h2)
    obtain ⟨p1, p2⟩ := h.part (k := k) (by omega)
    have mk := mulOk_r (x := ts[k].num) o4
    have e1 := reduced_ok (ts[k].num * w) ((ts[k].den : Nat) : Int) S' (den_pos _) (a := a) o3 h.a0 (by have := h.a4; omega)
    rw [div_mul_cast] at e1
    have e2 := plus_ok (dot (ts.take k) (ws.take k)) (ts[k] * (w : Rat)) S' p2 o2 p1 o1 h.a0 (by have := h.a4; omega)
    simp only [g_unpS, seqOf, os_some, List.length_cons, List.length_nil, gs_consS, gs_nilS, g_nm, List.set_cons_zero, List.set_cons_succ, p_asgN, q_call, q_cons, q_nil, q_var, q_op, q_c, sl_0, sl_s, true_and]
    rw [show frac ts[k] = .tup [.int ts[k].num, .int ((ts[k].den : Nat) : Int)] from rfl]
    simp only [ix_0, ix_1, os_some, fMul, mk, if_true, e1, r_ok, List.length_cons, List.length_nil, true_and, e2]
    exact ⟨_, _, by rw [dot_step ts ws k _ _ h1 h2], trivial⟩
  · rintro en S' ⟨x, y, rfl, rfl⟩
    have hl : (List.zipWith (fun a b => D.tup [a, b]) (ts.map frac) (ws.map .int)).length = ts.length := by simp [h.len]
    rw [hl]
    obtain ⟨p1, p2⟩ := h.part (k := ts.length) (by omega)
    rw [show ts.take ts.length = ts from List.take_length, show ws.take ts.length = ws by rw [← h.len, List.take_length]] at *
    have mk := mulOk_r (x := (((dot ts ws).den : Nat) : Int)) h.s64
    have e1 := reduced_ok (dot ts ws).num ((((dot ts ws).den : Nat) : Int) * ws.sum) S' (Int.mul_pos (den_pos _) h.pos) (a := a + 64) (natAbs_mul_lt p1 h.s64) (by omega) (by have := h.a4; omega)
    rw [div_den_mul h.pos] at e1
    simp only [p_ret, q_call, q_cons, q_nil, q_op, q_cb, q_var, q_c, sl_0, sl_s, os_some, f1, sum_tup]
    rw [show frac (dot ts ws) = .tup [.int (dot ts ws).num, .int (((dot ts ws).den : Nat) : Int)] from rfl]
    simp only [ix_0, ix_1, os_some, fMul, mk, if_true, e1, r_ok, List.length_cons, List.length_nil, true_and]
theorem mixed_ok (h : Day ts ws M B a) (hn : ts.length < 1000) (S : Sto) : F_mixed_l [.tup (ts.map frac), .tup (ws.map .int)] S = .ok (frac (dot ts ws / (ws.sum : Rat))) S := by
  unfold F_mixed_l
  apply sat_eq
  rw [f_run]
  show (s_mixed_l [some (.tup (ts.map frac)), some (.tup (ws.map .int)), none, none, none, none] S).sat _ _
  unfold s_mixed_l
  have r1 := rg1_len ts.length S (by omega)
  simp only [p_seq, p_asgN, q_c, q_tup, q_cb, f1, gLen, List.length_map, h.len, r1, List.set_cons_zero, List.set_cons_succ, List.length_cons, List.length_nil, p_for, q_itA, q_cons, q_nil, q_var, sl_0, sl_s, os_some]
  refine ⟨by unfold lineN; omega, for_inv (li_rg _ _) (fun k en S' => ∃ x y z, en = [some (.tup (ts.map frac)), some (.tup (ws.map .int)), some (frac (dot (ts.take k) (ws.take k))), x, y, z] ∧ S' = S) ?_ ?_ ⟨none, none, none, rfl, rfl⟩⟩
  · rintro k d en S' hd ⟨x, y, z, rfl, rfl⟩
    have hk : k < ts.length := by
      have := (List.getElem?_eq_some_iff.mp hd).1
      simpa using this
    have h1 : ts[k]? = some ts[k] := List.getElem?_eq_getElem hk
    have h2 : ws[k]? = some (ws[k]'(by rw [h.len]; omega)) := List.getElem?_eq_getElem (by rw [h.len]; omega)
    generalize ws[k]'(by rw [h.len]; omega) = w at h2
    have ed : d = .int (k : Int) := by
      rw [List.getElem?_map, List.getElem?_range hk] at hd
      simpa using hd.symm
    subst ed
    have i1 : (ts.map frac)[k]? = some (frac ts[k]) := by rw [List.getElem?_map, h1]; rfl
    have i2 : (ws.map D.int)[k]? = some (.int w) := by rw [List.getElem?_map, h2]; rfl
    obtain ⟨o1, o2, o3, o4⟩ := h.one (List.mem_of_getElem? h1) (List.mem_of_getElem? h2)
    obtain ⟨p1, p2⟩ := h.part (k := k) (by omega)
    have w0 := h.nn w (List.mem_of_getElem? h2)
    have nt : ts[k].num.natAbs < 2 ^ (a + 64) ∨ w = 0 := by
      by_cases hw : w = 0
      · exact .inr hw
      · refine .inl ?_
        have := (rp_le (h.rp ts[k] (List.mem_of_getElem? h1)) (C := ws.sum.natAbs * B) (Nat.le_mul_of_pos_left _ (by have := h.pos; omega))).num h.m0
        exact lt_pow (Nat.lt_of_le_of_lt this h.ba) (by omega)
    simp only [g_nm, List.set_cons_zero, List.set_cons_succ, p_seq, p_asg, q_op, q_var, sl_0, sl_s, os_some, ix_k, i1, g_unpS, seqOf, frac, List.length_cons, List.length_nil, gs_consS, gs_nilS, true_and, p_if, q_b, i2, q_c, fGt, cmpI, bOf]
    by_cases hw : 0 < w
    · simp only [hw, decide_true, if_true]
      have nt : ts[k].num.natAbs < 2 ^ (a + 64) := by
        rcases nt with nt | nt
        · exact nt
        · omega
      have m1 : mulOk (dot (ts.take k) (ws.take k)).num ((ts[k].den : Nat) : Int) = true := mulOk_of p2 o3 h.a0 h.a0 (by have := h.a4; omega)
      have m2 : mulOk ts[k].num w = true := mulOk_r o4
      have m3 : mulOk (ts[k].num * w) (((dot (ts.take k) (ws.take k)).den : Nat) : Int) = true := mulOk_of (natAbs_mul_lt nt o4) p1 (by omega) h.a0 (by have := h.a4; omega)
      have m4 : mulOk (((dot (ts.take k) (ws.take k)).den : Nat) : Int) ((ts[k].den : Nat) : Int) = true := mulOk_of p1 o3 h.a0 h.a0 (by have := h.a4; omega)
      have e1 := low_ok ((dot (ts.take k) (ws.take k)).num * ((ts[k].den : Nat) : Int) + ts[k].num * w * (((dot (ts.take k) (ws.take k)).den : Nat) : Int)) ((((dot (ts.take k) (ws.take k)).den : Nat) : Int) * ((ts[k].den : Nat) : Int)) S' (Int.mul_pos (den_pos _) (den_pos _)) (a := a + a) (natAbs_mul_lt p1 o3) (by have := h.a0; omega) (by have := h.a4; omega)
      rw [add_frac] at e1
      simp only [p_asgN, q_call, q_cons, q_nil, q_op, q_var, q_c, sl_0, sl_s, os_some, ix_0, ix_1, ix_k, i2, fMul, m1, m2, m3, m4, if_true, fAdd, List.length_cons, List.length_nil, true_and, e1, r_ok, List.set_cons_zero, List.set_cons_succ]
      exact ⟨_, _, _, by rw [dot_step ts ws k _ _ h1 h2]; rfl, trivial⟩
    · have hw0 : w = 0 := by omega
      subst hw0
      simp only [Int.lt_irrefl, decide_false, Bool.false_eq_true, if_false, p_nil]
      refine ⟨some (.int (k : Int)), some (.int ts[k].num), some (.int ((ts[k].den : Nat) : Int)), ?_, trivial⟩
      rw [dot_step ts ws k _ _ h1 h2]
      rw [show ts[k] * ((0 : Int) : Rat) = 0 by simp, Rat.add_zero]
  · rintro en S' ⟨x, y, z, rfl, rfl⟩
    have hl : ((List.range ts.length).map fun k => D.int (0 + (k : Nat))).length = ts.length := by simp
    rw [hl]
    obtain ⟨p1, p2⟩ := h.part (k := ts.length) (by omega)
    rw [show ts.take ts.length = ts from List.take_length, show ws.take ts.length = ws by rw [← h.len, List.take_length]] at *
    have mk := mulOk_r (x := (((dot ts ws).den : Nat) : Int)) h.s64
    have e1 := low_ok (dot ts ws).num ((((dot ts ws).den : Nat) : Int) * ws.sum) S' (Int.mul_pos (den_pos _) h.pos) (a := a + 64) (natAbs_mul_lt p1 h.s64) (by omega) (by have := h.a4; omega)
    rw [div_den_mul h.pos] at e1
    simp only [p_ret, q_call, q_cons, q_nil, q_op, q_cb, q_var, q_c, sl_0, sl_s, os_some, f1, sum_tup]
    rw [show frac (dot ts ws) = .tup [.int (dot ts ws).num, .int (((dot ts ws).den : Nat) : Int)] from rfl]
    simp only [ix_0, ix_1, os_some, fMul, mk, if_true, e1, r_ok, List.length_cons, List.length_nil, true_and]

theorem isi_tup (l : List D) (S : Sto) : fIsi isoC isoT [.tup l, .ty "tuple"] S = some (.bl true) := rfl
theorem integer_ok (i : Int) (S : Sto) : F_is_integer [.int i] S = .ok (.bl true) S := rfl
theorem within_ok (i lo hi : Int) (S : Sto) : F_is_within [.int i, .int lo, .int hi] S = .ok (.bl (decide (lo ≤ i) && decide (i ≤ hi))) S := by
  unfold F_is_within
  apply sat_eq
  rw [f_run]
  show (s_is_within [some (.int i), some (.int lo), some (.int hi)] S).sat _ _
  unfold s_is_within
  simp only [p_ret, q_andV, q_call, q_cons, q_nil, q_var, sl_0, sl_s, os_some, integer_ok, r_ok, bOf, if_true, q_chain, fLe, cmpI, Option.bind_some, List.length_cons, List.length_nil, true_and]
  by_cases h : lo ≤ i <;> simp [h]
structure Heads (hs : List Str) : Prop where
  ne : hs ≠ []
  six : hs.length ≤ 6
  nm : ∀ h ∈ hs, ∀ S, F_is_name [.str h] S = .ok (.bl true) S
  ok : ∀ h ∈ hs, PyData.strOk h = true
  nd : hs.Nodup
  rb : ∀ h ∈ hs, Rb 0 40 (.str h)
theorem mind_ok {hs : List Str} (H : Heads hs) (S : Sto) : F_wrong_mind [.tup (hs.map .str)] S = .ok (.tup []) S := by
  unfold F_wrong_mind
  apply sat_eq
  rw [f_run]
  show (s_wrong_mind [some (.tup (hs.map .str)), none, none] S).sat _ _
  unfold s_wrong_mind
  simp only [p_seq, p_if, q_orB, q_notB, q_b, q_cb, q_cons, q_nil, q_var, q_c, q_op, sl_0, sl_s, os_some, isi_tup, bOf, Bool.not_true, Bool.false_eq_true, if_false, f1, gLen, List.length_map, eq_int, eq_len0 H.ne, decide_false, p_nil, p_for, q_itA, en1]
  refine for_inv (li_en _) (fun k en S' => ∃ x y, en = [some (.tup (hs.map .str)), x, y] ∧ S' = S) ?_ ?_ ⟨none, none, rfl, rfl⟩
  · rintro k d en S' hd ⟨x, y, rfl, rfl⟩
    have hk : k < hs.length := by
      have := (List.getElem?_eq_some_iff.mp hd).1
      simpa using this
    have h1 : hs[k]? = some hs[k] := List.getElem?_eq_getElem hk
    have ed : d = .tup [.int (k : Int), .str hs[k]] := by
      rw [List.getElem?_mapIdx, List.getElem?_map, h1] at hd
      simpa using hd.symm
    subst ed
    have hm := List.mem_of_getElem? h1
    have e1 := H.nm _ hm S'
    have e2 : ¬ (6 : Int) ≤ (k : Int) := by have := H.six; omega
    have e3 : fIn (.str hs[k]) (.tup ((hs.take k).map .str)) S' = some (.bl false) := by
      rw [in_strs S' (H.ok _ hm) fun y hy => H.ok y (List.mem_of_mem_take hy)]
      congr 2
      refine decide_eq_false fun hin => ?_
      obtain ⟨j, hj, e⟩ := List.mem_iff_getElem.mp hin
      rw [List.getElem_take] at e
      simp only [List.length_take] at hj
      have := (List.getElem?_inj (i := j) (j := k) (by omega) H.nd).mp (by rw [List.getElem?_eq_getElem (by omega), h1, e])
      omega
    simp only [g_unpS, seqOf, os_some, List.length_cons, List.length_nil, gs_consS, gs_nilS, g_nm, List.set_cons_zero, List.set_cons_succ, true_and, p_if, q_orB, q_notB, q_b, q_call, q_cons, q_nil, q_var, sl_0, sl_s, e1, r_ok, bOf, Bool.not_true, Bool.false_eq_true, if_false, q_op, q_c, fGe, cmpI, e2, decide_false, q_sl, q_oN, q_oS, intD, fSl, cut_take, ← List.map_take, e3, p_nil]
    exact ⟨_, _, rfl, trivial⟩
  · rintro en S' ⟨x, y, rfl, rfl⟩
    simp only [p_ret, q_tup, q_nil, List.length_nil]
    exact ⟨by decide, trivial, trivial⟩
theorem row_ok {n : Nat} {r : List Int} (h : RowOk n r) (hn : n < 1000) (S : Sto) : F_is_row [rowD r, .int (n : Int)] S = .ok (.bl true) S := by
  unfold F_is_row
  apply sat_eq
  rw [f_run]
  show (s_is_row [some (.tup (r.map .int)), some (.int (n : Int)), none] S).sat _ _
  unfold s_is_row
  simp only [p_seq, p_if, q_orB, q_notB, q_b, q_cb, q_cons, q_nil, q_var, q_c, q_op, sl_0, sl_s, os_some, isi_tup, bOf, Bool.not_true, Bool.false_eq_true, if_false, f1, gLen, List.length_map, h.len, ne_int, ne_eq, not_true_eq_false, decide_false, p_nil, p_ret, q_andV, q_lc, q_itV, itOf]
  refine lc_map (li_ls _) (fun _ => .bl true) (by rw [List.length_map, h.len]; exact len_line hn) (fun k d hd => ?_) ?_
  · rw [List.getElem?_map] at hd
    obtain ⟨w, hw, rfl⟩ := Option.map_eq_some_iff.mp hd
    have hb := h.in_ w (List.mem_of_getElem? hw)
    simp only [wipeE, List.set_cons_zero, List.set_cons_succ, g_nm, q_call, q_cons, q_nil, q_var, q_c, sl_0, sl_s, os_some, within_ok, r_ok, hb.1, hb.2, decide_true, Bool.and_self, List.length_cons, List.length_nil]
    trivial
  · rw [map_true (fun _ _ => rfl)]
    have := all_true (r.map D.int).length S
    simp only [f1] at this
    simp only [this, os_some, bOf, if_true, sum_tup, fGt, cmpI, h.pos, decide_true]
    trivial
theorem way_ok {n : Nat} {w : List (List Int)} (h : WayOk n w) (hn : n < 1000) (S : Sto) : F_is_way [wayD w, .int (n : Int)] S = .ok (.bl true) S := by
  unfold F_is_way
  apply sat_eq
  rw [f_run]
  show (s_is_way [some (.tup (w.map rowD)), some (.int (n : Int)), none] S).sat _ _
  unfold s_is_way
  simp only [p_ret, q_andV, q_cb, q_cons, q_nil, q_var, q_c, q_op, sl_0, sl_s, os_some, isi_tup, bOf, if_true, f1, gLen, List.length_map, h.len, eq_int, decide_true, q_lc, q_itV, itOf]
  refine lc_map (li_ls _) (fun _ => .bl true) (by rw [List.length_map, h.len]; exact len_line hn) (fun k d hd => ?_) ?_
  · rw [List.getElem?_map] at hd
    obtain ⟨r, hr, rfl⟩ := Option.map_eq_some_iff.mp hd
    have e1 := row_ok (h.row r (List.mem_of_getElem? hr)) hn S
    simp only [wipeE, List.set_cons_zero, List.set_cons_succ, g_nm, q_call, q_cons, q_nil, q_var, q_c, sl_0, sl_s, os_some, e1, r_ok, List.length_cons, List.length_nil]
    trivial
  · rw [map_true (fun _ _ => rfl)]
    have := all_true (w.map rowD).length S
    simp only [f1] at this
    simp only [this, os_some]
    trivial
theorem wrong_way_ok {n : Nat} {ws : List (List (List Int))} (h : ∀ w ∈ ws, WayOk n w) (hn : n < 1000) (h0 : ws ≠ []) (h6 : ws.length ≤ 6) (S : Sto) : F_wrong_way [.tup (ws.map wayD), .int (n : Int)] S = .ok (.tup []) S := by
  unfold F_wrong_way
  apply sat_eq
  rw [f_run]
  show (s_wrong_way [some (.tup (ws.map wayD)), some (.int (n : Int)), none, none] S).sat _ _
  unfold s_wrong_way
  simp only [p_seq, p_if, q_orB, q_notB, q_b, q_cb, q_cons, q_nil, q_var, q_c, q_op, sl_0, sl_s, os_some, isi_tup, bOf, Bool.not_true, Bool.false_eq_true, if_false, f1, gLen, List.length_map, eq_int, eq_len0 h0, decide_false, p_nil, p_for, q_itA, en1]
  refine for_inv (li_en _) (fun k en S' => ∃ x y, en = [some (.tup (ws.map wayD)), some (.int (n : Int)), x, y] ∧ S' = S) ?_ ?_ ⟨none, none, rfl, rfl⟩
  · rintro k d en S' hd ⟨x, y, rfl, rfl⟩
    have hk : k < ws.length := by
      have := (List.getElem?_eq_some_iff.mp hd).1
      simpa using this
    have h1 : ws[k]? = some ws[k] := List.getElem?_eq_getElem hk
    have ed : d = .tup [.int (k : Int), wayD ws[k]] := by
      rw [List.getElem?_mapIdx, List.getElem?_map, h1] at hd
      simpa using hd.symm
    subst ed
    have e1 := way_ok (h _ (List.mem_of_getElem? h1)) hn S'
    have e2 : ¬ (6 : Int) ≤ (k : Int) := by omega
    simp only [g_unpS, seqOf, os_some, List.length_cons, List.length_nil, gs_consS, gs_nilS, g_nm, List.set_cons_zero, List.set_cons_succ, true_and, p_if, q_orB, q_notB, q_b, q_call, q_cons, q_nil, q_var, sl_0, sl_s, e1, r_ok, bOf, Bool.not_true, Bool.false_eq_true, if_false, q_op, q_c, fGe, cmpI, e2, decide_false, p_nil]
    exact ⟨_, _, rfl, trivial⟩
  · rintro en S' ⟨x, y, rfl, rfl⟩
    simp only [p_ret, q_tup, q_nil, List.length_nil]
    exact ⟨by decide, trivial, trivial⟩

theorem init_ok {hs : List Str} {ws : List (List (List Int))} (H : Heads hs) (hw : ∀ w ∈ ws, WayOk hs.length w) (h0 : ws ≠ []) (h6 : ws.length ≤ 6) (S : Sto) :
    F_Councild_initd [.ref S.length, .tup (hs.map .str), .tup (ws.map wayD)] (S ++ [.ins "Council" [] []]) = .ok .non (S ++ [.ins "Council" ["heads", "tables"] [.tup (hs.map .str), .tup (ws.map wayD)]]) := by
  unfold F_Councild_initd
  apply sat_eq
  rw [f_run]
  show (s_Councild_initd [some (.ref S.length), some (.tup (hs.map .str)), some (.tup (ws.map wayD)), none] _).sat _ _
  unfold s_Councild_initd
  have e1 := mind_ok H (S ++ [.ins "Council" [] []])
  have e2 := wrong_way_ok hw (by have := H.six; omega) h0 h6 (S ++ [.ins "Council" [] []])
  simp only [p_seq, p_asgN, q_call, q_cons, q_nil, q_var, sl_0, sl_s, os_some, e1, r_ok, List.length_cons, List.length_nil, true_and, List.set_cons_zero, List.set_cons_succ, p_if, q_b, q_op, q_tup, ne_nil, bOf, Bool.false_eq_true, if_false, p_nil, q_cb, f1, gLen, List.length_map, e2, Nat.zero_le, true_and]
  refine p_fld ?_
  simp only [q_var, sl_0, sl_s, os_some]
  refine ⟨S.length, "Council", [], [], (["heads"], [.tup (hs.map .str)]), rfl, by simp, by simp, by decide, rfl, p_fld ?_⟩
  simp only [q_var, sl_0, sl_s, os_some]
  refine ⟨S.length, "Council", ["heads"], [.tup (hs.map .str)], (["heads", "tables"], [.tup (hs.map .str), .tup (ws.map wayD)]), rfl, by simp, by simp, by decide, rfl, by simp⟩
theorem make_ok {hs : List Str} {ws : List (List (List Int))} (H : Heads hs) (hw : ∀ w ∈ ws, WayOk hs.length w) (h0 : ws ≠ []) (h6 : ws.length ≤ 6) {S : Sto} (hS : Cl S) :
    mkD "Council" true F_Councild_initd [.tup (hs.map .str), .tup (ws.map wayD)] S = .ok (cncl hs ws) S := by
  unfold mkD
  rw [init_ok H hw h0 h6 S]
  have b : optAll (frzF S.length (S ++ [.ins "Council" ["heads", "tables"] [.tup (hs.map .str), .tup (ws.map wayD)]]) 2) [.tup (hs.map .str), .tup (ws.map wayD)] = some [.tup (hs.map .str), .tup (ws.map wayD)] := optAll_nr (by
    intro d hd
    simp only [List.mem_cons, List.not_mem_nil, or_false] at hd
    rcases hd with rfl | rfl
    · exact nr_tup (nr_map nr_str)
    · exact nr_tup (nr_map nr_way))
  simp only [if_true, cutR, List.take_left', cl_all hS S.length, frzD, frzF, Nat.lt_irrefl, if_false, List.getElem?_append_right (Nat.le_refl _), Nat.sub_self, List.getElem?_cons_zero, b]
  rfl
theorem ways_ok (hs : List Str) (ws : List (List (List Int))) (S : Sto) : F_Council_ways [cncl hs ws] S = .ok (.tup (ws.map wayD)) S := rfl
theorem chk_c (hs : List Str) (ws : List (List (List Int))) (S : Sto) : F_check_council [cncl hs ws] S = .ok .non S := rfl
theorem len_c (hs : List Str) (ws : List (List (List Int))) (S : Sto) : F_Councild_lend [cncl hs ws] S = .ok (.int (hs.length : Int)) S := by
  have : F_Councild_lend [cncl hs ws] S = .ok (.int ((hs.map D.str).length : Int)) S := rfl
  rw [this, List.length_map]
theorem day_ok {n : Nat} {p : List Nat} (hp : ∀ k ∈ p, k < n) (hl : p.length ≤ 12) (S : Sto) : F_wrong_day [.int (n : Int), wordD p] S = .ok (.tup []) S := by
  unfold F_wrong_day
  apply sat_eq
  rw [f_run]
  show (s_wrong_day [some (.int (n : Int)), some (.tup (p.map fun (k : Nat) => .int (k : Int))), none, none] S).sat _ _
  unfold s_wrong_day
  simp only [p_seq, p_if, q_notB, q_b, q_cb, q_cons, q_nil, q_var, q_c, q_op, sl_0, sl_s, os_some, isi_tup, bOf, Bool.not_true, Bool.false_eq_true, if_false, p_nil, p_for, q_itA, en1]
  refine for_inv (li_en _) (fun k en S' => ∃ x y, en = [some (.int (n : Int)), some (.tup (p.map fun (k : Nat) => .int (k : Int))), x, y] ∧ S' = S) ?_ ?_ ⟨none, none, rfl, rfl⟩
  · rintro k d en S' hd ⟨x, y, rfl, rfl⟩
    have hk : k < p.length := by
      have := (List.getElem?_eq_some_iff.mp hd).1
      simpa using this
    have h1 : p[k]? = some p[k] := List.getElem?_eq_getElem hk
    have ed : d = .tup [.int (k : Int), .int (p[k] : Int)] := by
      rw [List.getElem?_mapIdx, List.getElem?_map, h1] at hd
      simpa using hd.symm
    subst ed
    have hb := hp _ (List.mem_of_getElem? h1)
    have e1 := within_ok (p[k] : Int) 0 ((n : Int) - 1) S'
    rw [show (decide ((0 : Int) ≤ (p[k] : Int)) && decide ((p[k] : Int) ≤ (n : Int) - 1)) = true by simp; omega] at e1
    have e2 : ¬ (12 : Int) ≤ (k : Int) := by omega
    simp only [g_unpS, seqOf, os_some, List.length_cons, List.length_nil, gs_consS, gs_nilS, g_nm, List.set_cons_zero, List.set_cons_succ, true_and, p_if, q_orB, q_notB, q_b, q_call, q_cons, q_nil, q_var, sl_0, sl_s, fSub, e1, r_ok, bOf, Bool.not_true, Bool.false_eq_true, if_false, q_op, q_c, fGe, cmpI, e2, decide_false, p_nil]
    exact ⟨_, _, rfl, trivial⟩
  · rintro en S' ⟨x, y, rfl, rfl⟩
    simp only [p_ret, q_tup, q_nil, List.length_nil]
    exact ⟨by decide, trivial, trivial⟩
theorem word_ok {hs : List Str} {ws : List (List (List Int))} {p : List Nat} (hp : ∀ k ∈ p, k < ws.length) (hl : p.length ≤ 12) (S : Sto) : F_check_word [cncl hs ws, wordD p] S = .ok .non S := by
  unfold F_check_word
  apply sat_eq
  rw [f_run]
  show (s_check_word [some (cncl hs ws), some (wordD p), none] S).sat _ _
  unfold s_check_word
  simp only [p_seq, p_expr, p_asgN, q_call, q_cons, q_nil, q_var, sl_0, sl_s, os_some, chk_c, r_ok, List.length_cons, List.length_nil, true_and, q_cb, q_prop, cls_c, ways_ok, f1, gLen, List.length_map, day_ok hp hl S, List.set_cons_zero, List.set_cons_succ, p_if, q_b, q_op, q_tup, ne_nil, bOf, Bool.false_eq_true, if_false, p_nil, Nat.zero_le]
theorem fraction_ok (q : Rat) {a : Nat} (hs : q.den < 2 ^ a) (ha : 0 < a) (h9 : a ≤ 9000) (S : Sto) : F_is_fraction [frac q] S = .ok (.bl true) S := by
  unfold F_is_fraction
  apply sat_eq
  rw [f_run]
  show (s_is_fraction [some (.tup [.int q.num, .int ((q.den : Nat) : Int)])] S).sat _ _
  unfold s_is_fraction
  have e1 := reduced_ok q.num ((q.den : Nat) : Int) S (den_pos q) (a := a) hs ha h9
  rw [show ((q.num : Rat)) / ((((q.den : Nat) : Int)) : Rat) = q by rw [Rat.intCast_natCast]; exact num_den q] at e1
  have e2 : (1 : Int) ≤ ((q.den : Nat) : Int) := by have := den_pos q; omega
  have e3 : fEq (frac q) (.tup [.int q.num, .int ((q.den : Nat) : Int)]) S = some (.bl true) := eq_same ((dp_frac q).pl (by decide)) S
  simp only [p_seq, p_if, q_orB, q_notB, q_b, q_cb, q_cons, q_nil, q_var, q_c, q_op, q_call, sl_0, sl_s, os_some, isi_tup, bOf, Bool.not_true, Bool.false_eq_true, if_false, f1, gLen, List.length_cons, List.length_nil, ix_0, ix_1, integer_ok, r_ok, p_nil, p_ret, q_andV, fGe, cmpI, e2, decide_true, if_true, e1, e3]
  simp [ne_int, osat, bOf]
theorem some_ok {ts : List Rat} {a : Nat} (h0 : ts ≠ []) (hs : ∀ t ∈ ts, t.den < 2 ^ a) (ha : 0 < a) (h9 : a ≤ 9000) (S : Sto) : F_check_some [.tup (ts.map frac)] S = .ok .non S := by
  unfold F_check_some
  apply sat_eq
  rw [f_run]
  show (s_check_some [some (.tup (ts.map frac)), none, none] S).sat _ _
  unfold s_check_some
  simp only [p_seq, p_if, q_orB, q_notB, q_b, q_cb, q_cons, q_nil, q_var, q_c, q_op, sl_0, sl_s, os_some, isi_tup, bOf, Bool.not_true, Bool.false_eq_true, if_false, f1, gLen, List.length_map, eq_int, eq_len0 h0, decide_false, p_nil, p_for, q_itA, en1]
  refine for_inv (li_en _) (fun k en S' => ∃ x y, en = [some (.tup (ts.map frac)), x, y] ∧ S' = S) ?_ ?_ ⟨none, none, rfl, rfl⟩
  · rintro k d en S' hd ⟨x, y, rfl, rfl⟩
    have hk : k < ts.length := by
      have := (List.getElem?_eq_some_iff.mp hd).1
      simpa using this
    have h1 : ts[k]? = some ts[k] := List.getElem?_eq_getElem hk
    have ed : d = .tup [.int (k : Int), frac ts[k]] := by
      rw [List.getElem?_mapIdx, List.getElem?_map, h1] at hd
      simpa using hd.symm
    subst ed
    have e1 := fraction_ok ts[k] (hs _ (List.mem_of_getElem? h1)) ha h9 S'
    simp only [g_unpS, seqOf, os_some, List.length_cons, List.length_nil, gs_consS, gs_nilS, g_nm, List.set_cons_zero, List.set_cons_succ, true_and, p_if, q_notB, q_b, q_call, q_cons, q_nil, q_var, sl_0, sl_s, e1, r_ok, bOf, Bool.not_true, Bool.false_eq_true, if_false, p_nil]
    exact ⟨_, _, rfl, trivial⟩
  · rintro en S' ⟨x, y, rfl, rfl⟩
    exact ⟨trivial, rfl⟩
theorem thoughts_ok {hs : List Str} {ws : List (List (List Int))} {ts : List Rat} {a : Nat} (hl : ts.length = hs.length) (h0 : ts ≠ []) (hn : hs.length < 1000) (hd : ∀ t ∈ ts, t.den < 2 ^ a) (ha : 0 < a) (h9 : a ≤ 9000) (S : Sto) : F_check_thoughts [cncl hs ws, .tup (ts.map frac)] S = .ok .non S := by
  unfold F_check_thoughts
  apply sat_eq
  rw [f_run]
  show (s_check_thoughts [some (cncl hs ws), some (.tup (ts.map frac))] S).sat _ _
  unfold s_check_thoughts
  have e1 : lenF "Council" F_Councild_lend [cncl hs ws] S = .ok (.int (hs.length : Int)) S := by
    simp only [lenF, cls_c, if_true, len_c]
    rw [if_pos (by omega)]
  simp only [p_seq, p_if, q_orB, q_notB, q_b, q_cb, q_cr, q_cons, q_nil, q_var, q_c, q_op, sl_0, sl_s, os_some, isi_tup, bOf, Bool.not_true, Bool.false_eq_true, if_false, f1, gLen, List.length_map, e1, r_ok, hl, ne_int, ne_eq, not_true_eq_false, decide_false, p_nil, p_expr, q_call, some_ok h0 hd ha h9 S, List.length_cons, List.length_nil]
  trivial

theorem day_of_ok {n d : Nat} {ts : List Rat} {w : List (List Int)} (h : Sz n d ts) (hw : WayOk n w) (hn : n ≤ 6) (hd : d ≤ 18) (S : Sto) : F_day_of [wayD w, .tup (ts.map frac)] S = .ok (.tup ((dayR w ts).map frac)) S := by
  unfold F_day_of
  apply sat_eq
  rw [f_run]
  show (s_day_of [some (.tup (w.map rowD)), some (.tup (ts.map frac)), none] S).sat _ _
  unfold s_day_of
  simp only [p_ret, q_cb, q_cons, q_nil, q_lc, q_itV, q_var, sl_0, sl_s, os_some, itOf]
  refine lc_map (li_ls _) (fun c => match c with | .tup l => (match isInts l with | some r => frac (dot ts r / (r.sum : Rat)) | none => .non) | _ => .non) (by rw [List.length_map, hw.len]; exact len_line (by omega)) (fun k c hc => ?_) ?_
  · obtain ⟨r, hr, _, rfl⟩ := map_get hc
    obtain ⟨M, B, dd⟩ := h.day (hw.row r hr) hn hd
    have e := mean_ok dd S
    simp only [wipeE, List.set_cons_zero, List.set_cons_succ, g_nm, q_call, q_cons, q_nil, q_var, sl_0, sl_s, os_some, rowD, e, r_ok, List.length_cons, List.length_nil, ints_map]
    trivial
  · simp only [tup_lst, os_some, dayR, List.map_map]
    refine ⟨?_, trivial⟩
    congr 1
    refine List.map_congr_left fun r _ => ?_
    simp [rowD, ints_map]
theorem after_run {n d : Nat} {hs : List Str} {ws : List (List (List Int))} {p : List Nat} {ts : List Rat} (hw : ∀ w ∈ ws, WayOk n w) (hn : n ≤ 6) (h : Sz n d ts) (hp : ∀ k ∈ p, k < ws.length) (hd : d + p.length ≤ 18) (S : Sto) :
    F_thoughts_after [cncl hs ws, .tup (ts.map frac), wordD p] S = .ok (.tup ((walkR ws p ts).map frac)) S := by
  unfold F_thoughts_after
  apply sat_eq
  rw [f_run]
  show (s_thoughts_after [some (cncl hs ws), some (.tup (ts.map frac)), some (.tup (p.map fun (k : Nat) => .int (k : Int))), none] S).sat _ _
  unfold s_thoughts_after
  simp only [p_seq, p_for, q_itV, q_var, sl_0, sl_s, os_some, itOf]
  refine for_inv (li_ls _) (fun k en S' => ∃ x, en = [some (cncl hs ws), some (.tup ((walkR ws (p.take k) ts).map frac)), some (.tup (p.map fun (k : Nat) => .int (k : Int))), x] ∧ S' = S) ?_ ?_ ⟨none, rfl, rfl⟩
  · rintro k c en S' hc ⟨x, rfl, rfl⟩
    obtain ⟨j, hj, hk, rfl⟩ := map_get hc
    obtain ⟨m1, m2⟩ := getD_mem (hp j hj)
    have hkl := (List.getElem?_eq_some_iff.mp hk).1
    have e1 := day_of_ok (walk_sz hw hn (p.take k) h (fun i hi => hp i (List.mem_of_mem_take hi)) (by rw [List.length_take]; omega)) (hw _ m1) hn (by rw [List.length_take]; omega) S'
    have i1 : (ws.map wayD)[j]? = some (wayD (ws.getD j [])) := by rw [List.getElem?_map, m2]; rfl
    simp only [g_nm, List.set_cons_zero, List.set_cons_succ, p_asgN, q_call, q_cons, q_nil, q_op, q_prop, q_var, sl_0, sl_s, os_some, cls_c, ways_ok, r_ok, ix_k, i1, e1, List.length_cons, List.length_nil, true_and]
    exact ⟨_, by rw [walk_step ws p ts hk], trivial⟩
  · rintro en S' ⟨x, rfl, rfl⟩
    simp only [p_ret, q_var, sl_0, sl_s, os_some]
    rw [List.take_of_length_le (by simp)]
    exact ⟨rfl, trivial⟩
theorem after_ok {d : Nat} {hs : List Str} {ws : List (List (List Int))} {p : List Nat} {ts : List Rat} (H : Heads hs) (hw : ∀ w ∈ ws, WayOk hs.length w) (h : Sz hs.length d ts) (hp : ∀ k ∈ p, k < ws.length) (hd : d + p.length ≤ 18) (h12 : p.length ≤ 12) (S : Sto) :
    F_after [cncl hs ws, .tup (ts.map frac), wordD p] S = .ok (.tup ((walkR ws p ts).map frac)) S := by
  unfold F_after
  apply sat_eq
  rw [f_run]
  show (s_after [some (cncl hs ws), some (.tup (ts.map frac)), some (wordD p)] S).sat _ _
  unfold s_after
  have n0 : ts ≠ [] := fun z => H.ne (List.eq_nil_of_length_eq_zero (by rw [← h.1, z]; rfl))
  have e1 := thoughts_ok (ws := ws) h.1 n0 (by have := H.six; omega) (fun t ht => (h.den t ht).1) (by omega) (by omega) S
  simp only [p_seq, p_expr, p_ret, q_call, q_cons, q_nil, q_var, sl_0, sl_s, os_some, chk_c, r_ok, List.length_cons, List.length_nil, true_and, e1, word_ok hp h12 S, after_run hw H.six h hp hd S]
theorem later_ok {n d : Nat} {ws : List (List (List Int))} {p : List Nat} {ts : List Rat} (hw : ∀ w ∈ ws, WayOk n w) (hn : n ≤ 6) (h : Sz n d ts) (hp : ∀ k ∈ p, k < ws.length) (hd : d + p.length ≤ 18) (S : Sto) :
    F_later_l [.tup (ws.map wayD), .tup (ts.map frac), wordD p] S = .ok (.tup ((walkR ws p ts).map frac)) S := by
  unfold F_later_l
  apply sat_eq
  rw [f_run]
  show (s_later_l [some (.tup (ws.map wayD)), some (.tup (ts.map frac)), some (.tup (p.map fun (k : Nat) => .int (k : Int))), none, none] S).sat _ _
  unfold s_later_l
  simp only [p_seq, p_for, q_itV, q_var, sl_0, sl_s, os_some, itOf]
  refine for_inv (li_ls _) (fun k en S' => ∃ x, en = [some (.tup (ws.map wayD)), some (.tup ((walkR ws (p.take k) ts).map frac)), some (.tup (p.map fun (k : Nat) => .int (k : Int))), x, none] ∧ S' = S) ?_ ?_ ⟨none, rfl, rfl⟩
  · rintro k c en S' hc ⟨x, rfl, rfl⟩
    obtain ⟨j, hj, hk, rfl⟩ := map_get hc
    obtain ⟨m1, m2⟩ := getD_mem (hp j hj)
    have z := walk_sz hw hn (p.take k) h (fun i hi => hp i (List.mem_of_mem_take hi)) (by rw [List.length_take]; omega)
    generalize eus : walkR ws (p.take k) ts = us at z ⊢
    have i1 : (ws.map wayD)[j]? = some (.tup ((ws.getD j []).map rowD)) := by rw [List.getElem?_map, m2]; rfl
    simp only [g_nm, List.set_cons_zero, List.set_cons_succ, p_asgN, q_cb, q_cons, q_nil, q_lc, q_itV, q_op, q_var, sl_0, sl_s, os_some, ix_k, i1, itOf]
    refine lc_map (li_ls _) (fun c => match c with | .tup l => (match isInts l with | some r => frac (dot us r / (r.sum : Rat)) | none => .non) | _ => .non) (by rw [List.length_map, (hw _ m1).len]; exact len_line (by omega)) (fun i c hc => ?_) ?_
    · obtain ⟨r, hr, _, rfl⟩ := map_get hc
      have e : F_mixed_l [.tup (us.map frac), .tup (r.map .int)] S' = .ok (frac (dot us r / (r.sum : Rat))) S' := by
        obtain ⟨M, B, dd⟩ := z.day ((hw _ m1).row r hr) hn (by rw [List.length_take]; omega)
        exact mixed_ok dd (by have := z.1; omega) S'
      simp only [wipeE, List.set_cons_zero, List.set_cons_succ, g_nm, q_call, q_cons, q_nil, q_var, sl_0, sl_s, os_some, rowD, e, r_ok, List.length_cons, List.length_nil, ints_map]
      trivial
    · simp only [tup_lst, os_some]
      refine ⟨some (.int (j : Int)), ?_, trivial⟩
      rw [walk_step ws p ts hk, eus]
      congr 2
      simp only [List.map_map, dayR, wayD]
      congr 2
      refine List.map_congr_left fun r _ => ?_
      simp [rowD, ints_map]
  · rintro en S' ⟨x, rfl, rfl⟩
    simp only [p_ret, q_var, sl_0, sl_s, os_some]
    rw [List.take_of_length_le (by simp)]
    exact ⟨rfl, trivial⟩

theorem sip_ok {S : Sto} {i : Nat} (h : Jg S i) {m : Int} (hm : 0 < m) (hm2 : m < 1073741824) : (F_sip_l [.ref i, .int m] S).sat fun v S' => ∃ d : Nat, v = .int (d : Int) ∧ (d : Int) < m ∧ Lk S S' i := by
  unfold F_sip_l
  rw [f_run]
  show (s_sip_l [some (.ref i), some (.int m), none] S).sat _ _
  obtain ⟨a, b, c, e⟩ := h.at_
  unfold s_sip_l
  have x0 : fIx (.ref i) (.int 0) S = some (.int a) := ix_ref e 0
  have x1 : ∀ a b c S, S[i]? = some (.lst [.int a, .int b, .int c]) → fIx (.ref i) (.int 1) S = some (.int b) := fun a b c S z => ix_ref z 1
  have x2 : ∀ a b c S, S[i]? = some (.lst [.int a, .int b, .int c]) → fIx (.ref i) (.int 2) S = some (.int c) := fun a b c S z => ix_ref z 2
  have y0 : ∀ a b c d S, S[i]? = some (.lst [.int a, .int b, .int c]) → fSet (.ref i) (.int 0) (.int d) S = some (S.set i (.lst [.int d, .int b, .int c])) := fun a b c d S z => set_ref z (k := 0) (by simp) _
  have y1 : ∀ a b c d S, S[i]? = some (.lst [.int a, .int b, .int c]) → fSet (.ref i) (.int 1) (.int d) S = some (S.set i (.lst [.int a, .int d, .int c])) := fun a b c d S z => set_ref z (k := 1) (by simp) _
  have y2 : ∀ a b c d S, S[i]? = some (.lst [.int a, .int b, .int c]) → fSet (.ref i) (.int 2) (.int d) S = some (S.set i (.lst [.int a, .int b, .int d])) := fun a b c d S z => set_ref z (k := 2) (by simp) _
  have fin : ∀ z : Int, ∃ d : Nat, z % m = (d : Int) ∧ (d : Int) < m := fun z => by
    have h1 := Int.emod_nonneg z (show m ≠ 0 by omega)
    have h2 := Int.emod_lt_of_pos z hm
    exact ⟨(z % m).toNat, by omega, by omega⟩
  simp only [p_seq, p_if, q_b, q_op, q_var, q_c, sl_0, sl_s, os_some, x0, fGt, cmpI, bOf]
  by_cases ha : 0 < a
  · simp only [ha, decide_true, if_true, p_seq, p_asg, q_cb, q_cons, q_nil, q_op, q_var, q_c, sl_0, sl_s, os_some, x0, fDivmod, hm, hm2, and_self, g_unpS, seqOf, List.length_cons, List.length_nil, gs_consS, gs_nilS, g_subS, y0 a b c _ S e, g_nm, List.set_cons_zero, List.set_cons_succ, p_ret, true_and]
    obtain ⟨d, h1, h2⟩ := fin a
    rw [h1]
    exact ⟨d, rfl, h2, Lk.put h _ _ _⟩
  · have m1 : ∀ z : Int, mulOk z 43003 = true := fun z => mulOk_r (by decide)
    have m2 : ∀ z : Int, mulOk 29009 z = true := fun z => by
      unfold mulOk
      rw [decide_eq_true (by decide)]
      simp
    have d1 : divOk 1024 = true := by decide
    have e1 := set_get (o := .lst [.int a, .int b, .int (c + 1)]) e
    have e2 : ∀ z : Int, (S.set i (.lst [.int a, .int z, .int (c + 1)]))[i]? = some (.lst [.int a, .int z, .int (c + 1)]) := fun z => set_get e
    simp only [ha, decide_false, Bool.false_eq_true, if_false, p_nil, p_asg, g_subS, q_op, q_var, q_c, sl_0, sl_s, os_some, x2 a b c S e, fAdd, y2 a b c _ S e, q_cb, q_cons, q_nil, x1 _ _ _ _ e1, x2 _ _ _ _ e1, fMul, m1, m2, if_true, f1, gInt, fMod, y1 _ _ _ _ _ e1, List.set_set, p_ret, x1 _ _ _ _ (e2 _), fDiv, d1, hm]
    simp only [show (0 : Int) < 2147483269 by decide, if_true, os_some]
    obtain ⟨d, h1, h2⟩ := fin ((b * 43003 + 29009 * (c + 1)) % 2147483269 / 1024)
    simp only [y1 _ _ _ _ _ e1, List.set_set, os_some, x1 _ _ _ _ (e2 _)]
    simp only [d1, hm, if_true, os_some]
    rw [h1]
    exact ⟨d, rfl, h2, Lk.put h _ _ _⟩
theorem row_draw {S : Sto} {i n : Nat} (h : Jg S i) (h1 : 1 ≤ n) (h6 : n ≤ 6) : (F_row_l [.ref i, .int (n : Int)] S).sat fun v S' => (∃ r, v = rowD r ∧ RowOk n r) ∧ Lk S S' i := by
  unfold F_row_l
  have k1 : i < S.length := h.lt
  refine scop_ok k1 ?_
  rw [f_run]
  show (s_row_l [some (.ref i), some (.int (n : Int)), none, none] S).sat _ _
  unfold s_row_l
  have r1 := rg1_len n S (by omega)
  simp only [p_seq, p_asgN, q_lcC, q_itA, q_cons, q_nil, q_var, sl_0, sl_s, os_some, r1]
  refine lc_inv (li_rg _ _) (fun k acc S' => Lk S S' i ∧ ∃ r : List Int, acc = r.map .int ∧ r.length = k ∧ ∀ w ∈ r, 0 ≤ w ∧ w ≤ 7) ?_ ?_ ⟨.refl h, [], rfl, rfl, by simp⟩
  · rintro k d acc S' hd ⟨l, r, rfl, hr, hb⟩
    have hk : k < n := by
      have := (List.getElem?_eq_some_iff.mp hd).1
      simpa using this
    simp only [wipeE, List.set_cons_zero, List.set_cons_succ, g_nm, mYes, r_ok, if_true, q_op, q_lst, q_cons, q_nil, q_c, q_call, q_var, sl_0, sl_s, os_some, List.length_cons, List.length_nil, true_and]
    refine ⟨by decide, (sip_ok l.jg (by decide) (by decide)).mono ?_⟩
    rintro v S2 ⟨d, rfl, hd, l2⟩
    rw [ix_lst]
    have : d = 0 ∨ d = 1 ∨ d = 2 ∨ d = 3 ∨ d = 4 ∨ d = 5 ∨ d = 6 := by omega
    have fin : ∀ w : Int, 0 ≤ w ∧ w ≤ 7 → (r.map D.int).length < lineN ∧ Lk S S2 i ∧ ∃ r' : List Int, r.map D.int ++ [.int w] = r'.map .int ∧ r'.length = k + 1 ∧ ∀ w ∈ r', 0 ≤ w ∧ w ≤ 7 := fun w hw =>
      ⟨by rw [List.length_map, hr]; unfold lineN; omega, l.trans l2, r ++ [w], by simp, by simp [hr], fun x hx => by
        rcases List.mem_append.mp hx with hx | hx
        · exact hb x hx
        · have : x = w := by simpa using hx
          subst this; exact hw⟩
    rcases this with rfl | rfl | rfl | rfl | rfl | rfl | rfl
    · exact os_some.mpr (fin 0 (by decide))
    · exact os_some.mpr (fin 0 (by decide))
    · exact os_some.mpr (fin 1 (by decide))
    · exact os_some.mpr (fin 1 (by decide))
    · exact os_some.mpr (fin 2 (by decide))
    · exact os_some.mpr (fin 3 (by decide))
    · exact os_some.mpr (fin 7 (by decide))
  · rintro acc S1 ⟨l, r, rfl, hr, hb⟩
    rw [show ((List.range n).map fun k => D.int (0 + (k : Nat))).length = n by simp] at hr
    have x0 : Ex S (S1 ++ [.lst (r.map .int)]) i := l.toEx.add (bel_lst (nr_map nr_int))
    have g0 : (S1 ++ [Ob.lst (r.map .int)])[S1.length]? = some (.lst (r.map .int)) := by simp
    have ni : i ≠ S1.length := by have := l.jg.lt; omega
    have li : i < S.length := h.lt
    have nn : ∀ w ∈ r, 0 ≤ w := fun w hw => (hb w hw).1
    simp only [p_if, q_b, q_op, q_cb, q_cons, q_nil, q_var, q_c, sl_0, sl_s, os_some, List.set_cons_zero, List.set_cons_succ, f1, sum_ref g0, eq_int, bOf]
    by_cases hs : r.sum = 0
    · simp only [hs, decide_true, if_true, p_asg, q_op, q_lst, q_cons, q_nil, q_c, fPow, os_if, q_call, q_var, sl_0, sl_s, os_some, List.length_cons, List.length_nil, true_and]
      refine ⟨by decide, by decide, (sip_ok x0.jg (by decide) (by decide)).mono ?_⟩
      rintro v S2 ⟨d, rfl, hd, l2⟩
      rw [ix_lst]
      have g2 : S2[S1.length]? = some (.lst (r.map .int)) := by rw [l2.oth _ (by simp) (Ne.symm ni)]; exact g0
      have fin : ∀ w : Int, 0 < w ∧ w ≤ 1000000000 → (gSubM fSet (mVar 2) (mCall 2 F_sip_l (mCons (mVar 0) (mCons (mVar 1) mNil))) (.int w) [some (.ref i), some (.int (n : Int)), some (.ref S1.length), none] S2).sat fun en S' => (sRet (mCB (f1 gTup) (mCons (mVar 2) mNil)) en S').sat (fun _ S' => (∃ r, D.non = rowD r ∧ RowOk n r) ∧ Nr .non ∧ Ex S S' i) fun d S' => (∃ r, d = rowD r ∧ RowOk n r) ∧ Nr d ∧ Ex S S' i := fun w hw => by
        simp only [g_subS, q_call, q_cons, q_nil, q_var, sl_0, sl_s, os_some, List.length_cons, List.length_nil, true_and]
        refine (sip_ok l2.jg (by omega) (by omega)).mono ?_
        rintro v S3 ⟨d, rfl, hd, l3⟩
        have g3 : S3[S1.length]? = some (.lst (r.map .int)) := by rw [l3.oth _ (by rw [l2.same]; simp) (Ne.symm ni)]; exact g2
        have hd' : d < r.length := by omega
        rw [set_ref g3 (by simpa using hd')]
        have g4 := set_get (o := .lst ((r.map D.int).set d (.int w))) g3
        simp only [os_some, p_ret, q_cb, q_cons, q_nil, q_var, sl_0, sl_s, tup_ref g4]
        refine ⟨⟨r.set d w, by simp [rowD, List.map_set], by simp [hr], fun x hx => ?_, ?_⟩, ?_, ((x0.trans l2.toEx).trans l3.toEx).put (by rw [l.same]; exact Nat.le_refl _) li (bel_lst ?_)⟩
        · rcases List.mem_or_eq_of_mem_set hx with hx | rfl
          · have := hb x hx; omega
          · omega
        · have : w ≤ (r.set d w).sum := mem_le_sum (fun x hx => by
            rcases List.mem_or_eq_of_mem_set hx with hx | rfl
            · exact nn x hx
            · omega) w (List.mem_set hd' w)
          omega
        · rw [← List.map_set]; exact nr_tup (nr_map nr_int)
        · rw [← List.map_set]; exact nr_map nr_int
      have : d = 0 ∨ d = 1 ∨ d = 2 := by omega
      rcases this with rfl | rfl | rfl
      · exact os_some.mpr (fin 1 (by decide))
      · exact os_some.mpr (fin 2 (by decide))
      · exact os_some.mpr (fin (10 ^ 9) (by decide))
    · simp only [hs, decide_false, Bool.false_eq_true, if_false, p_nil, p_ret, q_cb, q_cons, q_nil, q_var, sl_0, sl_s, os_some, tup_ref g0]
      have h0 := (sum_take_le r r.length nn).1
      rw [List.take_length] at h0
      exact ⟨⟨r, rfl, hr, fun w hw => ⟨(hb w hw).1, by have := (hb w hw).2; omega⟩, by omega⟩, nr_row r, x0⟩

theorem talk_draw {S : Sto} {i n : Nat} (h : Jg S i) (h1 : 1 ≤ n) (h6 : n ≤ 6) : (F_talk_l [.ref i, .int (n : Int)] S).sat fun v S' => (∃ w, v = wayD w ∧ WayOk n w) ∧ Lk S S' i := by
  unfold F_talk_l
  rw [f_run]
  show (s_talk_l [some (.ref i), some (.int (n : Int)), none] S).sat _ _
  unfold s_talk_l
  have r1 := rg1_len n S (by omega)
  simp only [p_ret, q_cb, q_lc, q_itA, q_cons, q_nil, q_var, sl_0, sl_s, os_some, r1]
  refine lc_inv (li_rg _ _) (fun k acc S' => Lk S S' i ∧ ∃ w, acc = w.map rowD ∧ w.length = k ∧ ∀ r ∈ w, RowOk n r) ?_ ?_ ⟨.refl h, [], rfl, rfl, by simp⟩
  · rintro k d acc S' hd ⟨l, w, rfl, hr, hb⟩
    have hk : k < n := by
      have := (List.getElem?_eq_some_iff.mp hd).1
      simpa using this
    simp only [wipeE, List.set_cons_zero, List.set_cons_succ, g_nm, mYes, r_ok, if_true, q_cons, q_nil, q_call, q_var, sl_0, sl_s, os_some, List.length_cons, List.length_nil, true_and]
    refine (row_draw l.jg h1 h6).mono ?_
    rintro v S2 ⟨⟨r, rfl, hr2⟩, l2⟩
    refine ⟨by rw [List.length_map, hr]; unfold lineN; omega, l.trans l2, w ++ [r], by simp, by simp [hr], fun x hx => ?_⟩
    rcases List.mem_append.mp hx with hx | hx
    · exact hb x hx
    · have : x = r := by simpa using hx
      subst this; exact hr2
  · rintro acc S1 ⟨l, w, rfl, hr, hb⟩
    rw [range_len] at hr
    simp only [tup_lst, os_some]
    exact ⟨⟨w, rfl, hr, hb⟩, l⟩
theorem pool_nm : ∀ h ∈ pool, ∀ S, F_is_name [.str h] S = .ok (.bl true) S := by
  intro h hh S
  simp only [pool, List.mem_cons, List.not_mem_nil, or_false] at hh
  rcases hh with rfl | rfl | rfl | rfl | rfl | rfl | rfl | rfl <;> kernel_rfl
theorem pool_rb : ∀ h ∈ pool, Rb 0 40 (.str h) := by
  intro h hh
  refine ⟨.str h, rfl, ?_, rfl, by simp [PyData.depth], ?_⟩
  all_goals
    simp only [pool, List.mem_cons, List.not_mem_nil, or_false] at hh
    rcases hh with rfl | rfl | rfl | rfl | rfl | rfl | rfl | rfl <;> decide +kernel
theorem heads_of {hs ps : List Str} (hp : (hs ++ ps).Perm pool) (h0 : hs ≠ []) (h6 : hs.length ≤ 6) : Heads hs := by
  have hm : ∀ h ∈ hs, h ∈ pool := fun h hh => hp.mem_iff.mp (by simp [hh])
  refine ⟨h0, h6, fun h hh => pool_nm h (hm h hh), fun h hh => pool_ok h (hm h hh), ?_, ?_⟩
  · have := hp.nodup_iff.mpr pool_nd
    exact (List.nodup_append.mp this).1
  · exact fun h hh => pool_rb h (hm h hh)
theorem pair_draw {S : Sto} {i mo : Nat} (h : Jg S i) (m1 : 1 ≤ mo) (m6 : mo ≤ 6) : (F_pair_l [.ref i, .int (mo : Int)] S).sat fun v S' => (∃ hs ws, v = .lst [.tup (hs.map .str), .tup (ws.map wayD)] ∧ Heads hs ∧ (∀ w ∈ ws, WayOk hs.length w) ∧ ws ≠ [] ∧ ws.length ≤ 4) ∧ Lk S S' i := by
  unfold F_pair_l
  refine scop_ok h.lt ?_
  rw [f_run]
  show (s_pair_l [some (.ref i), some (.int (mo : Int)), none, none, none, none] S).sat _ _
  unfold s_pair_l
  simp only [p_seq, p_asgN, q_op, q_c, q_call, q_cons, q_nil, q_var, sl_0, sl_s, os_some, List.length_cons, List.length_nil, true_and]
  refine (sip_ok h (by omega) (by omega)).mono ?_
  rintro v S1 ⟨n0, rfl, hn, l1⟩
  simp only [fAdd, os_some, List.set_cons_zero, List.set_cons_succ, q_lstC, q_cons, q_nil, q_c, List.length_cons, List.length_nil, p_for, q_itA, q_var, sl_0, sl_s]
  refine ⟨by decide, by decide, ?_⟩
  have en : (1 : Int) + (n0 : Int) = ((n0 + 1 : Nat) : Int) := by omega
  rw [en]
  have h6 : n0 + 1 ≤ 6 := by omega
  have h1 : 1 ≤ n0 + 1 := by omega
  generalize n0 + 1 = n at h6 h1
  have r1 := rg1_len n (S1 ++ [Ob.lst (pool.map .str)] ++ [.lst []]) (by omega)
  have li := h.lt
  have x0 : Ex S (S1 ++ [Ob.lst (pool.map .str)] ++ [.lst []]) i := (l1.toEx.add (bel_lst (nr_map nr_str))).add (bel_lst (by simp))
  have ga : (S1 ++ [Ob.lst (pool.map .str)] ++ [.lst []])[S1.length]? = some (.lst (pool.map .str)) := by simp
  have gb : (S1 ++ [Ob.lst (pool.map .str)] ++ [.lst []])[(S1 ++ [Ob.lst (pool.map .str)]).length]? = some (.lst (([] : List Str).map .str)) := by simp
  have ha : S.length ≤ S1.length := by rw [l1.same]; exact Nat.le_refl _
  have hb : (S1 ++ [Ob.lst (pool.map .str)]).length = S1.length + 1 := by simp
  have ep : ([.str "ann", .str "bob", .str "cyd", .str "d2", .str "e", .str "z9999999", .str "abe", .str "x"] : List D) = pool.map .str := rfl
  simp only [ep]
  rw [r1, os_some]
  generalize S1 ++ [Ob.lst (pool.map .str)] ++ [.lst []] = T0 at x0 ga gb
  generalize (S1 ++ [Ob.lst (pool.map .str)]).length = b at gb hb
  generalize S1.length = a at ga ha hb
  subst hb
  refine for_inv (li_rg _ _) (fun k en S' => ∃ x hs ps, en = [some (.ref i), some (.int (mo : Int)), some (.int (n : Int)), some (.ref a), some (.ref (a + 1)), x] ∧ Ex S S' i ∧ S'[a]? = some (.lst (ps.map .str)) ∧ S'[a + 1]? = some (.lst (hs.map .str)) ∧ (hs ++ ps).Perm pool ∧ hs.length = k) ?_ ?_ ⟨none, [], pool, rfl, x0, ga, gb, by simp, rfl⟩
  · rintro k d en S' hd ⟨x, hs, ps, rfl, e1, g1, g2, hp, hk⟩
    have hkn : k < n := by
      have := (List.getElem?_eq_some_iff.mp hd).1
      simpa using this
    have hl : hs.length + ps.length = 8 := by
      have := hp.length_eq
      simpa [pool] using this
    simp only [g_nm, List.set_cons_zero, List.set_cons_succ, p_expr, q_bm, q_var, sl_0, sl_s, os_some, ok_ref g2, ok_ref g1, q_cons, q_nil, q_call, q_cb, f1, len_ref g1, List.length_map, List.length_cons, List.length_nil, true_and]
    refine (sip_ok e1.jg (by omega) (by omega)).mono ?_
    rintro v S2 ⟨d, rfl, hd2, l2⟩
    have hd3 : d < ps.length := by omega
    have lt1 := (List.getElem?_eq_some_iff.mp g1).1
    have lt2 := (List.getElem?_eq_some_iff.mp g2).1
    have k1 : S2[a]? = some (.lst (ps.map .str)) := by rw [l2.oth a lt1 (by omega)]; exact g1
    have k2 : S2[a + 1]? = some (.lst (hs.map .str)) := by rw [l2.oth (a + 1) lt2 (by omega)]; exact g2
    have hx : (ps.map D.str)[d]? = some (.str ps[d]) := by rw [List.getElem?_map, List.getElem?_eq_getElem hd3]; rfl
    rw [pop_ref k1 hx]
    have k3 : (S2.set a (.lst ((ps.map D.str).eraseIdx d)))[a + 1]? = some (.lst (hs.map .str)) := by rw [List.getElem?_set_ne (by omega)]; exact k2
    have k4 : ∀ o, ((S2.set a (.lst ((ps.map D.str).eraseIdx d))).set (a + 1) o)[a]? = some (.lst ((ps.map D.str).eraseIdx d)) := fun o => by rw [List.getElem?_set_ne (by omega)]; exact set_get k1
    simp only [os_some, app_ref k3 (show (hs.map D.str).length < lineN by rw [List.length_map]; unfold lineN; omega)]
    refine ⟨_, hs ++ [ps[d]], ps.eraseIdx d, rfl, ?_, ?_, ?_, ?_, by simp [hk]⟩
    · refine ((e1.trans l2.toEx).put ha li (bel_lst ?_)).put (by omega) li (bel_lst ?_)
      · rw [erase_map]; exact nr_map nr_str
      · rw [show hs.map D.str ++ [.str ps[d]] = (hs ++ [ps[d]]).map .str by simp]; exact nr_map nr_str
    · rw [k4, erase_map]
    · rw [set_get k3]; simp
    · refine .trans ?_ hp
      rw [List.append_assoc]
      exact List.Perm.append_left hs (erase_perm hd3)
  · rintro en S' ⟨x, hs, ps, rfl, e1, g1, g2, hp, hk⟩
    rw [range_len] at hk
    have hH : Heads hs := heads_of hp (fun z => by rw [z] at hk; simp at hk; omega) (by omega)
    have t1 := tup_ref g2
    simp only [p_ret, q_lst, q_cons, q_nil, q_cb, q_var, sl_0, sl_s, os_some, t1, q_lc, q_itA, q_op, q_c, q_call, List.length_cons, List.length_nil, true_and]
    refine (sip_ok e1.jg (by decide) (by decide)).mono ?_
    rintro v S2 ⟨m, rfl, hm, l2⟩
    have em : (1 : Int) + (m : Int) = ((m + 1 : Nat) : Int) := by omega
    simp only [fAdd, os_some]
    rw [em, rg1_len (m + 1) S2 (by omega), os_some]
    refine lc_inv (li_rg _ _) (fun k acc S3 => Lk S' S3 i ∧ ∃ ws, acc = ws.map wayD ∧ ws.length = k ∧ ∀ w ∈ ws, WayOk n w) ?_ ?_ ⟨l2, [], rfl, rfl, by simp⟩
    · rintro k d acc S3 hd ⟨l3, ws, rfl, hr, hb⟩
      have hk : k < m + 1 := by
        have := (List.getElem?_eq_some_iff.mp hd).1
        simpa using this
      simp only [wipeE, List.set_cons_zero, List.set_cons_succ, g_nm, mYes, r_ok, if_true, q_cons, q_nil, q_call, q_var, sl_0, sl_s, os_some, List.length_cons, List.length_nil, true_and]
      refine (talk_draw l3.jg h1 h6).mono ?_
      rintro v S4 ⟨⟨w, rfl, hw⟩, l4⟩
      refine ⟨by rw [List.length_map, hr]; unfold lineN; omega, l3.trans l4, ws ++ [w], by simp, by simp [hr], fun x hx => ?_⟩
      rcases List.mem_append.mp hx with hx | hx
      · exact hb x hx
      · have : x = w := by simpa using hx
        subst this; exact hw
    · rintro acc S3 ⟨l3, ws, rfl, hr, hb⟩
      rw [range_len] at hr
      have t2 := tup_lst (ws.map wayD) S3
      simp only [t2, os_some]
      refine ⟨by decide, ⟨hs, ws, rfl, hH, by rw [hk]; exact hb, fun z => by rw [z] at hr; simp at hr, by omega⟩, ?_, e1.trans l3.toEx⟩
      refine nr_lst fun d hd => ?_
      simp only [List.mem_cons, List.not_mem_nil, or_false] at hd
      rcases hd with rfl | rfl
      · exact nr_tup (nr_map nr_str)
      · exact nr_tup (nr_map nr_way)

theorem jug_ok {ns : List Int} {S : Sto} (hS : Cl S) (hl : ns.length ≤ 63) (k : Nat) : (F_jug_l [.scr (ns.map .int), .int (k : Int)] S).sat fun v S' => v = .ref S.length ∧ Jg S' S.length := by
  unfold F_jug_l
  rw [f_run]
  show (s_jug_l [some (.scr (ns.map .int)), some (.int (k : Int)), none, none, none] S).sat _ _
  unfold s_jug_l
  have m1 : mulOk 53 (k : Int) = true := by
    unfold mulOk
    rw [decide_eq_true (by decide)]; rfl
  have m2 : mulOk 37013 (k : Int) = true := by
    unfold mulOk
    rw [decide_eq_true (by decide)]; rfl
  have m3 : ∀ z : Int, mulOk z 59063 = true := fun z => mulOk_r (by decide)
  have rest : ∀ g : Int, (sSeq (sAsg (mOp fAdd (mC (.int 122949823)) (mOp fMul (mC (.int 37013)) (mVar 1))) (gNm 3))
      (sSeq (sFor (mItV (mOp fAdd (mLst (mCons (mVar 2) mNil)) (mSl (mVar 0) oNone (oSome (mC (.int 6)))))) (gNm 4) (sAsg (mOp fMod (mCB (f1 gInt) (mCons (mOp fAdd (mOp fMul (mVar 3) (mC (.int 59063))) (mVar 4)) mNil)) (mC (.int 2147483269))) (gNm 3)))
      (sRet (mLstC (mCons (mIf (mB (mOp fGe (mCB (f1 gAbs) (mCons (mVar 2) mNil)) (mOp fPow (mC (.int 10)) (mC (.int 18))))) (mCB (f1 gAbs) (mCons (mVar 2) mNil)) (mC (.int 0))) (mCons (mVar 3) (mCons (mC (.int 0)) mNil))))))
      [some (.scr (ns.map .int)), some (.int (k : Int)), some (.int g), none, none] S).sat (fun _ S' => D.non = .ref S.length ∧ Jg S' S.length) fun v S' => v = .ref S.length ∧ Jg S' S.length := fun g => by
    have ad : fAdd (.lst [.int g]) (.lst ((ns.map .int).take 6)) S = some (.lst ((g :: ns.take 6).map .int)) := by
      show (if 1 + ((ns.map D.int).take 6).length ≤ lineN then some (D.lst ([.int g] ++ (ns.map .int).take 6)) else none) = _
      rw [if_pos (by rw [List.length_take]; unfold lineN; omega)]
      simp [List.map_take]
    simp only [p_seq, p_asgN, q_op, q_c, q_var, sl_0, sl_s, os_some, fMul, m2, if_true, add_int, List.set_cons_zero, List.set_cons_succ, p_for, q_itV, q_lst, q_cons, q_nil, List.length_cons, List.length_nil, q_sl, q_oN, q_oS, intD, fSl, rdOf, Option.map_some, cut_6, ad, itOf]
    refine ⟨by decide, for_inv (li_ls _) (fun j en S' => ∃ (s : Int) (x : Option D), en = [some (.scr (ns.map .int)), some (.int (k : Int)), some (.int g), some (.int s), x] ∧ S' = S) ?_ ?_ ⟨_, none, rfl, rfl⟩⟩
    · rintro j d en S' hd ⟨s, x, rfl, rfl⟩
      obtain ⟨e, _, _, rfl⟩ := map_get hd
      simp only [g_nm, List.set_cons_zero, List.set_cons_succ, p_asgN, q_op, q_cb, q_cons, q_nil, q_c, q_var, sl_0, sl_s, os_some, fMul, m3, if_true, add_int, f1, gInt, fMod]
      simp only [show (0 : Int) < 2147483269 by decide, if_true, os_some]
      exact ⟨_, _, rfl, trivial⟩
    · rintro en S' ⟨s, x, rfl, rfl⟩
      have fin : ∀ a : Int, Jg (S' ++ [.lst [.int a, .int s, .int 0]]) S'.length := fun a => ⟨cl_app hS (bel_lst fun d hd => by
        simp only [List.mem_cons, List.not_mem_nil, or_false] at hd
        rcases hd with rfl | rfl | rfl <;> exact nr_int _), a, s, 0, by simp⟩
      simp only [p_ret, q_lstC, q_cons, q_nil, q_if, q_b, q_op, q_cb, q_c, q_var, sl_0, sl_s, os_some, f1, gAbs, fPow, os_if, fGe, cmpI, bOf, List.length_cons, List.length_nil]
      refine ⟨by decide, ?_⟩
      generalize (if g < 0 then -g else g) = ag
      by_cases hc : decide (10 ^ Int.toNat 18 ≤ ag) = true
      · rw [if_pos hc]; exact ⟨by decide, trivial, fin _⟩
      · rw [if_neg hc]; exact ⟨by decide, trivial, fin _⟩
  rw [p_seq, p_asgN]
  simp only [q_if, q_b, q_op, q_cb, q_cons, q_nil, q_c, q_var, sl_0, sl_s, os_some, f1, len_scr, List.length_map, fLt, cmpI, bOf, fMul, m1, if_true, add_int, List.set_cons_zero, List.set_cons_succ]
  by_cases hk : k < ns.length
  · have : decide ((k : Int) < (ns.length : Int)) = true := decide_eq_true (by omega)
    simp only [this, if_true, ix_scr]
    rw [show (ns.map D.int)[k]? = some (.int ns[k]) by rw [List.getElem?_map, List.getElem?_eq_getElem hk]; rfl, os_some]
    exact rest ns[k]
  · have : decide ((k : Int) < (ns.length : Int)) = false := decide_eq_false (by omega)
    simp only [this, Bool.false_eq_true, if_false]
    exact rest (53 * (k : Int) + 11)


end Ag.k21

namespace Ag.k21
open PySem

theorem both_ok {hs : List Str} {ws : List (List (List Int))} {ts us : List Rat} {a : Nat} (H : Heads hs) (l1 : ts.length = hs.length) (l2 : us.length = hs.length) (d1 : ∀ t ∈ ts, t.den < 2 ^ a) (d2 : ∀ t ∈ us, t.den < 2 ^ a) (ha : 0 < a) (h9 : a ≤ 9000) (S : Sto) : F_check_both [cncl hs ws, .tup (ts.map frac), .tup (us.map frac)] S = .ok .non S := by
  unfold F_check_both
  apply sat_eq
  simp only [f_run, List.map_cons, List.map_nil, List.length_cons, List.length_nil, Nat.zero_add, Nat.reduceAdd, Nat.reduceSub, List.replicate_succ, List.replicate_zero, List.cons_append, List.nil_append]
  unfold s_check_both
  have n0 : ∀ ts : List Rat, ts.length = hs.length → ts ≠ [] := fun ts h z => H.ne (List.eq_nil_of_length_eq_zero (by rw [← h, z]; rfl))
  simp only [p_seq, stdQ, List.set_cons_zero, List.set_cons_succ, List.length_cons, List.length_nil, List.length_map, true_and, and_true, Bool.not_true, Bool.not_false, Bool.false_eq_true, if_false, if_true, decide_true, decide_false, not_true_eq_false, ne_eq, Nat.zero_le, chk_c, thoughts_ok l1 (n0 ts l1) (by have := H.six; omega) d1 ha h9, thoughts_ok l2 (n0 us l2) (by have := H.six; omega) d2 ha h9]
theorem fitting_ok {d : Nat} {hs : List Str} {ws : List (List (List Int))} {ts us : List Rat} (H : Heads hs) (hw : ∀ w ∈ ws, WayOk hs.length w) (w6 : ws.length ≤ 6) (z : Sz hs.length d ts) (l2 : us.length = hs.length) (d2 : ∀ t ∈ us, t.den < 2 ^ 4000) (hd : d ≤ 18) (S : Sto) :
    F_fitting [cncl hs ws, .tup (ts.map frac), .tup (us.map frac)] S = .ok (.tup (ixD ((List.range ws.length).filter fun a => decide (dayR (ws.getD a []) ts = us)))) S := by
  unfold F_fitting
  apply sat_eq
  simp only [f_run, List.map_cons, List.map_nil, List.length_cons, List.length_nil, Nat.zero_add, Nat.reduceAdd, Nat.reduceSub, List.replicate_succ, List.replicate_zero, List.cons_append, List.nil_append]
  unfold s_fitting
  simp only [p_seq, stdQ, List.set_cons_zero, List.set_cons_succ, List.length_cons, List.length_nil, List.length_map, true_and, and_true, Bool.not_true, Bool.not_false, Bool.false_eq_true, if_false, if_true, decide_true, decide_false, not_true_eq_false, ne_eq, Nat.zero_le, both_ok H z.1 l2 (fun t ht => lt_pow (z.den t ht).1 (show 12 + 198 * d ≤ 4000 by omega)) d2 (by decide) (by decide), cls_c, ways_ok]
  refine lc_filT (li_enT ws wayD) (g := fun q => .int (q.2 : Int)) (p := fun q => decide (dayR q.1 ts = us)) (by rw [List.length_zipIdx]; exact len_line (by omega)) (fun q hq => ?_) ?_
  · have hm : q.1 ∈ ws := (List.mem_zipIdx hq).2.2 ▸ List.getElem_mem _
    simp only [p_seq, stdQ, List.set_cons_zero, List.set_cons_succ, List.length_cons, List.length_nil, List.length_map, true_and, and_true, Bool.not_true, Bool.not_false, Bool.false_eq_true, if_false, if_true, decide_true, decide_false, not_true_eq_false, ne_eq, Nat.zero_le, day_of_ok z (hw _ hm) H.six hd, eq_th]
    exact fun _ => trivial
  · refine ⟨?_, rfl⟩
    have e : ws.zipIdx = (List.range ws.length).map fun a => (ws.getD a [], a) := by
      apply List.ext_getElem?
      intro k
      by_cases hk : k < ws.length
      · simp [List.getElem?_zipIdx, List.getElem?_map, List.getElem?_range hk, List.getElem?_eq_getElem hk, List.getD]
      · rw [List.getElem?_eq_none (by simp; omega), List.getElem?_eq_none (by simp; omega)]
    rw [e, List.filter_map, List.map_map]
    rfl

end Ag.k21

namespace Ag.k21
open PySem

/-! rows of shares, as tables of fractions -/
def thP (r : List Rat) : PyData := .tuple (r.map fracP)
def tabP (T : List (List Rat)) : PyData := .tuple (T.map thP)
theorem py_th (r : List Rat) : (thD r).py = some (thP r) := by
  show (D.pys (r.map frac)).map PyData.tuple = _
  rw [pys_frac]; rfl
theorem pys_ths : ∀ T : List (List Rat), D.pys (T.map thD) = some (T.map thP)
  | [] => rfl
  | r :: T => by simp [D.pys, py_th, pys_ths T]
theorem py_tab (T : List (List Rat)) : (tabD T).py = some (tabP T) := by
  show (D.pys (T.map thD)).map PyData.tuple = _
  rw [pys_ths]; rfl
theorem eqv_th (a b : List Rat) : PyData.eqv (thP a) (thP b) = decide (a = b) := by
  simp only [thP, PyData.eqv, eqv_fracs]
theorem eqv_all {α : Type} [DecidableEq α] {f : α → PyData} (hf : ∀ a b, PyData.eqv (f a) (f b) = decide (a = b)) : ∀ a b : List α, PyData.eqvAll (a.map f) (b.map f) = decide (a = b)
  | [], [] => by simp [PyData.eqvAll]
  | [], y :: b => by simp [PyData.eqvAll]
  | x :: a, [] => by simp [PyData.eqvAll]
  | x :: a, y :: b => by
    simp only [List.map_cons, PyData.eqvAll, hf, eqv_all hf a b, List.cons.injEq]
    by_cases h1 : x = y <;> by_cases h2 : a = b <;> simp [h1, h2]
theorem eqv_tab (a b : List (List Rat)) : PyData.eqv (tabP a) (tabP b) = decide (a = b) := by
  simp only [tabP, PyData.eqv, eqv_all eqv_th]
theorem pl_sh {d : D} {p : PyData} (h : Pl d) (e : d.py = some p) : SeqAt.shaped p = true := by
  obtain ⟨q, h1, h2⟩ := h
  rw [e] at h1; cases h1; exact h2
theorem eq_tab (a b : List (List Rat)) (S : Sto) : fEq (tabD a) (tabD b) S = some (.bl (decide (a = b))) := by
  show eqD _ _ S = _
  simp only [eqD, pyS_py (py_tab a), pyS_py (py_tab b), pl_sh (pl_tab a) (py_tab a), pl_sh (pl_tab b) (py_tab b), and_self, if_true, eqv_tab]
theorem dp_tab (T : List (List Rat)) : Dp 3 (tabD T) := dp_tup (k := 2) fun d hd => by
  obtain ⟨r, _, rfl⟩ := List.mem_map.mp hd
  exact dp_tup fun d hd => by
    obtain ⟨q, _, rfl⟩ := List.mem_map.mp hd
    exact dp_frac q
theorem pys_tabs : ∀ L : List (List (List Rat)), D.pys (L.map tabD) = some (L.map tabP)
  | [] => rfl
  | r :: T => by simp [D.pys, py_tab, pys_tabs T]
theorem notin_tab (p : List (List Rat)) (l : List (List (List Rat))) (S : Sto) : fNotIn (tabD p) (.lst (l.map tabD)) S = some (.bl (!decide (p ∈ l))) := by
  have e0 : (D.lst (l.map tabD)).py = some (.list (l.map tabP)) := by
    show (D.pys _).map PyData.list = _
    rw [pys_tabs]; rfl
  have s1 := pl_sh (pl_tab p) (py_tab p)
  have s2 : SeqAt.shaped (.list (l.map tabP)) = true := pl_sh ((dp_lst (k := 3) fun d hd => by
    obtain ⟨r, _, rfl⟩ := List.mem_map.mp hd
    exact dp_tab r).pl (by decide)) e0
  have e1 := pyS_py (S := S) (py_tab p)
  have e2 := pyS_py (S := S) e0
  have e3 : inD (tabD p) (.lst (l.map tabD)) S = some (decide (p ∈ l)) := by
    have : inD (tabD p) (.lst (l.map tabD)) S = (match pyS (tabD p) S, pyS (.lst (l.map tabD)) S with
      | some p, some (.tuple qs) => if SeqAt.shaped p = true ∧ SeqAt.shaped (.tuple qs) = true then some (qs.any fun z => PyData.eqv z p) else none
      | some p, some (.list qs) => if SeqAt.shaped p = true ∧ SeqAt.shaped (.list qs) = true then some (qs.any fun z => PyData.eqv z p) else none
      | _, _ => none) := rfl
    rw [this, e1, e2]
    simp only [s1, s2, and_self, if_true, Option.some.injEq, List.any_map]
    have : ((fun z => PyData.eqv z (tabP p)) ∘ tabP) = fun z => decide (z = p) := funext fun z => eqv_tab z p
    rw [this, Bool.eq_iff_iff, List.any_eq_true, decide_eq_true_eq]
    simp
  unfold fNotIn
  rw [e3]; rfl
/-! even_rows -/
def evenR (w : List (List Int)) : List (List Rat) := w.map fun r => r.map fun (x : Int) => (x : Rat) / (r.sum : Rat)
theorem even_ok {n : Nat} {w : List (List Int)} (hw : WayOk n w) (hn : n ≤ 6) (S : Sto) : F_even_rows [wayD w] S = .ok (tabD (evenR w)) S := by
  unfold F_even_rows
  apply sat_eq
  simp only [f_run, List.map_cons, List.map_nil, List.length_cons, List.length_nil, Nat.zero_add, Nat.reduceAdd, Nat.reduceSub, List.replicate_succ, List.replicate_zero, List.cons_append, List.nil_append]
  unfold s_even_rows
  simp only [p_seq, stdQ, List.set_cons_zero, List.set_cons_succ, List.length_cons, List.length_nil, List.length_map, true_and, and_true, Bool.not_true, Bool.not_false, Bool.false_eq_true, if_false, if_true, decide_true, decide_false, not_true_eq_false, ne_eq, Nat.zero_le]
  refine lc_mapT (xs := w) (e := rowD) (g := fun r => thD (r.map fun (x : Int) => (x : Rat) / (r.sum : Rat))) (li_ls _) (by have := hw.len; exact len_line (by omega)) (fun r hr => ?_) ?_
  · have ro := hw.row r hr
    simp only [p_seq, stdQ, List.set_cons_zero, List.set_cons_succ, List.length_cons, List.length_nil, List.length_map, true_and, and_true, Bool.not_true, Bool.not_false, Bool.false_eq_true, if_false, if_true, decide_true, decide_false, not_true_eq_false, ne_eq, Nat.zero_le]
    refine lc_mapT (xs := r) (e := .int) (g := fun (x : Int) => frac ((x : Rat) / (r.sum : Rat))) (li_ls _) (by have := ro.len; exact len_line (by omega)) (fun x hx => ?_) ?_
    · simp only [p_seq, stdQ, List.set_cons_zero, List.set_cons_succ, List.length_cons, List.length_nil, List.length_map, true_and, and_true, Bool.not_true, Bool.not_false, Bool.false_eq_true, if_false, if_true, decide_true, decide_false, not_true_eq_false, ne_eq, Nat.zero_le, rowD, sum_tup, reduced_ok x r.sum S ro.pos (ro.sum_lt hn) (by decide) (by decide)]
    · refine ⟨?_, rfl⟩
      simp [thD, List.map_map, Function.comp_def]
  · refine ⟨?_, rfl⟩
    simp [tabD, evenR, List.map_map, Function.comp_def]
/-- the same shares: the same day -/
def dotQ : List Rat → List Rat → Rat
  | t :: ts, q :: qs => t * q + dotQ ts qs
  | _, _ => 0
theorem dot_even {s : Rat} : ∀ (ts : List Rat) (r : List Int), dot ts r / s = dotQ ts (r.map fun (x : Int) => (x : Rat) / s)
  | [], _ => by simp [dot, dotQ, Rat.div_def, Rat.zero_mul]
  | _ :: _, [] => by simp [dot, dotQ, Rat.div_def, Rat.zero_mul]
  | t :: ts, x :: r => by
    show (t * (x : Rat) + dot ts r) / s = t * ((x : Rat) / s) + dotQ ts (r.map fun (x : Int) => (x : Rat) / s)
    rw [← dot_even ts r]
    simp only [Rat.div_def]
    grind
theorem day_evq (w : List (List Int)) (ts : List Rat) : dayR w ts = (evenR w).map fun r => dotQ ts r := by
  unfold dayR evenR
  rw [List.map_map]
  exact List.map_congr_left fun r _ => dot_even ts r
theorem day_alike {v w : List (List Int)} (h : evenR v = evenR w) (ts : List Rat) : dayR v ts = dayR w ts := by rw [day_evq, day_evq, h]
/-! alike -/
def altR (T : List (List (List Rat))) (k : Nat) : List (List Nat) := (List.range k).flatMap fun a => if T.getD a [] ∈ T.take a then [] else [(List.range T.length).filter fun q => decide (T.getD q [] = T.getD a [])]
theorem alt_succ (T : List (List (List Rat))) (k : Nat) : altR T (k + 1) = altR T k ++ if T.getD k [] ∈ T.take k then [] else [(List.range T.length).filter fun q => decide (T.getD q [] = T.getD k [])] := by
  unfold altR
  rw [List.range_succ, List.flatMap_append]
  simp
theorem alt_len (T : List (List (List Rat))) : ∀ k, (altR T k).length ≤ k
  | 0 => by simp [altR]
  | k + 1 => by
    rw [alt_succ, List.length_append]
    have := alt_len T k
    split <;> simp <;> omega
theorem zip_range {α : Type} (T : List α) (z : α) : T.zipIdx = (List.range T.length).map fun a => (T.getD a z, a) := by
  apply List.ext_getElem?
  intro k
  by_cases hk : k < T.length
  · simp [List.getElem?_zipIdx, List.getElem?_map, List.getElem?_range hk, List.getElem?_eq_getElem hk, List.getD]
  · rw [List.getElem?_eq_none (by simp; omega), List.getElem?_eq_none (by simp; omega)]
theorem alike_ok {hs : List Str} {ws : List (List (List Int))} (hw : ∀ w ∈ ws, WayOk hs.length w) (hn : hs.length ≤ 6) (h6 : ws.length ≤ 6) {S : Sto} (hS : Cl S) : F_alike [cncl hs ws] S = .ok (.tup ((altR (ws.map evenR) ws.length).map wordD)) S := by
  unfold F_alike
  refine scop_pure hS ?_
  simp only [f_run, List.map_cons, List.map_nil, List.length_cons, List.length_nil, Nat.zero_add, Nat.reduceAdd, Nat.reduceSub, List.replicate_succ, List.replicate_zero, List.cons_append, List.nil_append]
  unfold s_alike
  try simp only [p_seqL, stdQ, List.set_cons_zero, List.set_cons_succ, List.length_cons, List.length_nil, List.length_map, true_and, and_true, Bool.not_true, Bool.not_false, Bool.false_eq_true, if_false, if_true, decide_true, decide_false, not_true_eq_false, ne_eq, Nat.zero_le, chk_c]
  rw [later_eq]
  try simp only [p_seqL, stdQ, List.set_cons_zero, List.set_cons_succ, List.length_cons, List.length_nil, List.length_map, true_and, and_true, Bool.not_true, Bool.not_false, Bool.false_eq_true, if_false, if_true, decide_true, decide_false, not_true_eq_false, ne_eq, Nat.zero_le, cls_c, ways_ok]
  refine lc_mapT (xs := ws) (e := wayD) (g := fun w => tabD (evenR w)) (li_ls _) (len_line (by omega)) (fun w hm => ?_) ?_
  · try simp only [p_seqL, stdQ, List.set_cons_zero, List.set_cons_succ, List.length_cons, List.length_nil, List.length_map, true_and, and_true, Bool.not_true, Bool.not_false, Bool.false_eq_true, if_false, if_true, decide_true, decide_false, not_true_eq_false, ne_eq, Nat.zero_le, even_ok (hw w hm) hn]
  have eT : (ws.map fun w => tabD (evenR w)) = (ws.map evenR).map tabD := by rw [List.map_map]; rfl
  have eL : ws.length = (ws.map evenR).length := by simp
  rw [eT]
  rw [eL] at h6 ⊢
  generalize ws.map evenR = T at h6 ⊢
  try simp only [p_seqL, stdQ, List.set_cons_zero, List.set_cons_succ, List.length_cons, List.length_nil, List.length_map, true_and, and_true, Bool.not_true, Bool.not_false, Bool.false_eq_true, if_false, if_true, decide_true, decide_false, not_true_eq_false, ne_eq, Nat.zero_le]
  rw [later_eq]
  try simp only [p_seqL, stdQ, List.set_cons_zero, List.set_cons_succ, List.length_cons, List.length_nil, List.length_map, true_and, and_true, Bool.not_true, Bool.not_false, Bool.false_eq_true, if_false, if_true, decide_true, decide_false, not_true_eq_false, ne_eq, Nat.zero_le]
  refine for_T (li_enT T tabD) (fun k en S' => ∃ x3 x4, en = [some (cncl hs ws), some (.lst (T.map tabD)), some (.ref S.length), x3, x4, none, none, none] ∧ S' = S ++ [.lst ((altR T k).map wordD)]) ?_ ?_ ?_
  · exact ⟨_, _, rfl, rfl⟩
  · rintro k q en S' hk hm ⟨x3, x4, rfl, rfl⟩
    have hkl : k < T.length := by have := (List.getElem?_eq_some_iff.mp hk).1; simpa using this
    have eq : q = (T.getD k [], k) := by
      rw [zip_range T [], List.getElem?_map, List.getElem?_range hkl] at hk
      simpa using hk.symm
    subst eq
    have ct : cutD (T.map tabD) none (some (k : Int)) = (T.take k).map tabD := by rw [cut_take, List.map_take]
    try simp only [p_seqL, stdQ, List.set_cons_zero, List.set_cons_succ, List.length_cons, List.length_nil, List.length_map, true_and, and_true, Bool.not_true, Bool.not_false, Bool.false_eq_true, if_false, if_true, decide_true, decide_false, not_true_eq_false, ne_eq, Nat.zero_le, ct, notin_tab]
    by_cases c : T.getD k [] ∈ T.take k
    · try simp only [p_seqL, stdQ, List.set_cons_zero, List.set_cons_succ, List.length_cons, List.length_nil, List.length_map, true_and, and_true, Bool.not_true, Bool.not_false, Bool.false_eq_true, if_false, if_true, decide_true, decide_false, not_true_eq_false, ne_eq, Nat.zero_le, c, decide_true, Bool.not_true]
      rw [alt_succ, if_pos c, List.append_nil]
      exact ⟨_, _, rfl, rfl⟩
    · try simp only [p_seqL, stdQ, List.set_cons_zero, List.set_cons_succ, List.length_cons, List.length_nil, List.length_map, true_and, and_true, Bool.not_true, Bool.not_false, Bool.false_eq_true, if_false, if_true, decide_true, decide_false, not_true_eq_false, ne_eq, Nat.zero_le, c, decide_false, Bool.not_false]
      refine ⟨ok_ref at_end, ?_⟩
      refine lc_filT (li_enT T tabD) (g := fun q => .int (q.2 : Int)) (p := fun q => decide (q.1 = T.getD k [])) (by rw [List.length_zipIdx]; exact len_line (by omega)) (fun q hq => ?_) ?_
      · try simp only [p_seqL, stdQ, List.set_cons_zero, List.set_cons_succ, List.length_cons, List.length_nil, List.length_map, true_and, and_true, Bool.not_true, Bool.not_false, Bool.false_eq_true, if_false, if_true, decide_true, decide_false, not_true_eq_false, ne_eq, Nat.zero_le, eq_tab]
        exact fun _ => trivial
      · have ef : (T.zipIdx.filter fun q => decide (q.1 = T.getD k [])).map (fun q => D.int (q.2 : Int)) = ((List.range T.length).filter fun q => decide (T.getD q [] = T.getD k [])).map fun (q : Nat) => D.int (q : Int) := by
          rw [zip_range T [], List.filter_map, List.map_map]; rfl
        rw [ef]
        have al := alt_len T k
        try simp only [p_seqL, stdQ, List.set_cons_zero, List.set_cons_succ, List.length_cons, List.length_nil, List.length_map, true_and, and_true, Bool.not_true, Bool.not_false, Bool.false_eq_true, if_false, if_true, decide_true, decide_false, not_true_eq_false, ne_eq, Nat.zero_le]
        rw [app_end (by rw [List.length_map]; unfold lineN; omega), os_some]
        refine ⟨_, _, rfl, ?_⟩
        rw [alt_succ, if_neg c, List.map_append]
        rfl
  · rintro en S' ⟨x3, x4, rfl, rfl⟩
    rw [List.length_zipIdx]
    rw [later_eq]
    try simp only [p_seqL, stdQ, List.set_cons_zero, List.set_cons_succ, List.length_cons, List.length_nil, List.length_map, true_and, and_true, Bool.not_true, Bool.not_false, Bool.false_eq_true, if_false, if_true, decide_true, decide_false, not_true_eq_false, ne_eq, Nat.zero_le, gTup, rdOf, lstOf, at_end]
    rw [Option.map_some, os_some]
    exact ⟨rfl, nr_tup (nr_map nr_word), by simp⟩

end Ag.k21

namespace Ag.k21
open PySem

/-! k21: how many different ones there are, behind a function; roots -/
theorem many_le_map {α β : Type} [DecidableEq α] [DecidableEq β] (g : α → β) (l : List α) : manyN (l.map g) ≤ manyN l ∧ (manyN (l.map g) = manyN l → ∀ x ∈ l, ∀ y ∈ l, g x = g y → x = y) := by
  have key : ∀ n (l : List α), l.length = n → manyN (l.map g) ≤ manyN l ∧ (manyN (l.map g) = manyN l → ∀ x ∈ l, ∀ y ∈ l, g x = g y → x = y) := by
    intro n
    induction n with
    | zero =>
      intro l h
      rw [List.eq_nil_of_length_eq_zero h]
      exact ⟨Nat.le_refl _, fun _ x hx => by cases hx⟩
    | succ n ih =>
      intro l h
      obtain ⟨m, z, rfl⟩ : ∃ m z, l = m ++ [z] := ⟨l.dropLast, l.getLast (fun z => by rw [z] at h; cases h), (List.dropLast_concat_getLast _).symm⟩
      obtain ⟨a, b⟩ := ih m (by simpa using h)
      rw [List.map_append, List.map_singleton, many_snoc, many_snoc]
      by_cases hz : z ∈ m
      · rw [if_pos hz, if_pos (List.mem_map.mpr ⟨z, hz, rfl⟩)]
        refine ⟨a, fun e x hx y hy q => ?_⟩
        have sub : ∀ u, u ∈ m ++ [z] → u ∈ m := fun u hu => by
          rcases List.mem_append.mp hu with hu | hu
          · exact hu
          · rw [List.mem_singleton.mp hu]; exact hz
        exact b e x (sub x hx) y (sub y hy) q
      · rw [if_neg hz]
        by_cases hg : g z ∈ m.map g
        · rw [if_pos hg]
          exact ⟨by omega, fun e => by omega⟩
        · rw [if_neg hg]
          refine ⟨by omega, fun e x hx y hy q => ?_⟩
          have nz : ∀ u ∈ m, g u ≠ g z := fun u hu c => hg (List.mem_map.mpr ⟨u, hu, c⟩)
          rcases List.mem_append.mp hx with hx | hx
          · rcases List.mem_append.mp hy with hy | hy
            · exact b (by omega) x hx y hy q
            · rw [List.mem_singleton.mp hy] at q; exact absurd q (nz x hx)
          · rw [List.mem_singleton.mp hx] at q ⊢
            rcases List.mem_append.mp hy with hy | hy
            · exact absurd q.symm (nz y hy)
            · exact (List.mem_singleton.mp hy).symm
  exact key _ l rfl
theorem many_map_inj {α β : Type} [DecidableEq α] [DecidableEq β] {g : α → β} {l : List α} (h : ∀ x ∈ l, ∀ y ∈ l, g x = g y → x = y) : manyN (l.map g) = manyN l := by
  have key : ∀ n (l : List α), l.length = n → (∀ x ∈ l, ∀ y ∈ l, g x = g y → x = y) → manyN (l.map g) = manyN l := by
    intro n
    induction n with
    | zero => intro l h _; rw [List.eq_nil_of_length_eq_zero h]; rfl
    | succ n ih =>
      intro l h inj
      obtain ⟨m, z, rfl⟩ : ∃ m z, l = m ++ [z] := ⟨l.dropLast, l.getLast (fun z => by rw [z] at h; cases h), (List.dropLast_concat_getLast _).symm⟩
      have e := ih m (by simpa using h) fun x hx y hy => inj x (by simp [hx]) y (by simp [hy])
      rw [List.map_append, List.map_singleton, many_snoc, many_snoc, e]
      have : g z ∈ m.map g ↔ z ∈ m := ⟨fun hg => by
        obtain ⟨u, hu, c⟩ := List.mem_map.mp hg
        rw [← inj u (by simp [hu]) z (by simp) c]; exact hu, fun hz => List.mem_map.mpr ⟨z, hz, rfl⟩⟩
      by_cases hz : z ∈ m
      · rw [if_pos hz, if_pos (this.mpr hz)]
      · rw [if_neg hz, if_neg fun c => hz (this.mp c)]
  exact key _ l rfl h
/-! roots -/
def evP : List Rat → Rat → Rat
  | [], _ => 0
  | a :: c, x => a + x * evP c x
def divP (r : Rat) : List Rat → List Rat
  | [] => []
  | _ :: c => evP c r :: divP r c
theorem div_len (r : Rat) : ∀ c : List Rat, (divP r c).length = c.length
  | [] => rfl
  | _ :: c => by simp [divP, div_len r c]
theorem div_ev (r x : Rat) : ∀ c : List Rat, evP c x = (x - r) * evP (divP r c) x + evP c r
  | [] => by simp only [evP, divP]; grind
  | a :: c => by
    have := div_ev r x c
    simp only [evP, divP]
    grind
theorem div_zero {r : Rat} : ∀ {c : List Rat}, evP c r = 0 → (∀ a ∈ divP r c, a = 0) → ∀ a ∈ c, a = 0
  | [], _, _, a, h => by cases h
  | b :: c, e, h, a, ha => by
    have h0 : evP c r = 0 := h _ (by simp [divP])
    have hc := div_zero h0 fun a ha => h a (by simp [divP, ha])
    simp only [evP] at e
    rcases List.mem_cons.mp ha with rfl | ha
    · rw [h0] at e; grind
    · exact hc a ha
/-- the last place of a quotient is 0 -/
theorem div_last (r : Rat) : ∀ c : List Rat, c ≠ [] → ∃ q, divP r c = q ++ [0]
  | [], h => absurd rfl h
  | [a], _ => ⟨[], rfl⟩
  | a :: b :: c, _ => by
    obtain ⟨q, e⟩ := div_last r (b :: c) (by simp)
    exact ⟨evP (b :: c) r :: q, by show evP (b :: c) r :: divP r (b :: c) = _; rw [e]; rfl⟩
theorem ev_snoc0 (x : Rat) : ∀ q : List Rat, evP (q ++ [0]) x = evP q x
  | [] => by simp only [List.nil_append, evP]; grind
  | a :: q => by
    show a + x * evP (q ++ [0]) x = a + x * evP q x
    rw [ev_snoc0 x q]
theorem roots_few : ∀ (n : Nat) (c : List Rat), c.length = n → (∃ a ∈ c, a ≠ 0) → ∀ l : List Rat, l.Nodup → (∀ x ∈ l, evP c x = 0) → l.length < n
  | 0, c, hc, ⟨a, ha, _⟩, _, _, _ => by rw [List.eq_nil_of_length_eq_zero hc] at ha; cases ha
  | n + 1, c, hc, hz, l, nd, hl => by
    cases l with
    | nil => simp
    | cons r l =>
      have h0 : evP c r = 0 := hl r (by simp)
      obtain ⟨q, e⟩ := div_last r c (fun z => by rw [z] at hc; cases hc)
      have lq : q.length = n := by
        have := div_len r c
        rw [e, List.length_append, hc] at this
        simpa using this
      have nz : ∃ a ∈ q, a ≠ 0 := Classical.byContradiction fun z => by
        obtain ⟨a, ha, na⟩ := hz
        refine na (div_zero h0 (fun b hb => ?_) a ha)
        rw [e] at hb
        rcases List.mem_append.mp hb with hb | hb
        · exact Classical.byContradiction fun nb => z ⟨b, hb, nb⟩
        · exact List.mem_singleton.mp hb
      obtain ⟨n1, n2⟩ := List.nodup_cons.mp nd
      have := roots_few n q lq nz l n2 fun x hx => by
        have hx0 := hl x (by simp [hx])
        rw [div_ev r x c, h0, e, ev_snoc0] at hx0
        have nx : x - r ≠ 0 := fun z => n1 (by rw [show r = x by grind]; exact hx)
        have hx1 : (x - r) * evP q x = 0 := by grind
        rcases Rat.mul_eq_zero.mp hx1 with h | h
        · exact absurd h nx
        · exact h
      rw [List.length_cons]
      omega
/-! powers -/
def pwR (b n : Nat) : List Rat := (List.range n).map fun j => (((b ^ j : Nat) : Int) : Rat)
theorem dot_ev (b : Nat) : ∀ (r : List Rat) (p : Rat), dotQ ((List.range r.length).map fun j => p * (((b ^ j : Nat) : Int) : Rat)) r = p * evP r (((b : Nat) : Int) : Rat)
  | [], p => by simp [dotQ, evP]
  | a :: r, p => by
    rw [List.length_cons, List.range_succ_eq_map, List.map_cons, List.map_map]
    have e : ((fun j => p * (((b ^ j : Nat) : Int) : Rat)) ∘ Nat.succ) = fun j => (p * (((b : Nat) : Int) : Rat)) * (((b ^ j : Nat) : Int) : Rat) := by
      funext j
      simp only [Function.comp]
      rw [show b ^ Nat.succ j = b * b ^ j by rw [Nat.pow_succ, Nat.mul_comm], Int.natCast_mul, Rat.intCast_mul]
      grind
    rw [e]
    show p * (((b ^ 0 : Nat) : Int) : Rat) * a + dotQ _ r = p * (a + _ * evP r _)
    rw [dot_ev b r (p * (((b : Nat) : Int) : Rat))]
    have o : (((b ^ 0 : Nat) : Int) : Rat) = 1 := by rw [Nat.pow_zero]; rfl
    rw [o]
    grind
theorem dot_pw {b n : Nat} {r : List Rat} (h : r.length = n) : dotQ (pwR b n) r = evP r (((b : Nat) : Int) : Rat) := by
  have := dot_ev b r 1
  rw [h] at this
  unfold pwR
  simp only [Rat.one_mul] at this
  exact this
theorem ev_sub (x : Rat) : ∀ {r s : List Rat}, r.length = s.length → evP (List.zipWith (fun a b => a - b) r s) x = evP r x - evP s x
  | [], [], _ => by simp only [List.zipWith, evP]; grind
  | a :: r, b :: s, h => by
    have := ev_sub x (r := r) (s := s) (by simpa using h)
    simp only [List.zipWith, evP, this]
    grind
  | [], _ :: _, h => by simp at h
  | _ :: _, [], h => by simp at h
theorem sub_ne : ∀ {r s : List Rat}, r.length = s.length → r ≠ s → ∃ a ∈ List.zipWith (fun a b => a - b) r s, a ≠ 0
  | [], [], _, h => absurd rfl h
  | a :: r, b :: s, hl, h => by
    by_cases e : a = b
    · obtain ⟨c, hc, nc⟩ := sub_ne (r := r) (s := s) (by simpa using hl) (fun z => h (by rw [e, z]))
      exact ⟨c, by simp [List.zipWith, hc], nc⟩
    · exact ⟨a - b, by simp [List.zipWith], fun z => e (by grind)⟩
  | [], _ :: _, h, _ => by simp at h
  | _ :: _, [], h, _ => by simp at h
theorem inj_cast : ∀ {l : List Nat}, l.Nodup → (l.map fun b => (((b : Nat) : Int) : Rat)).Nodup := fun {l} h => by
  rw [List.Nodup, List.pairwise_map]
  refine h.imp fun {a b} ne e => ne ?_
  have e2 : ((a : Nat) : Int) = ((b : Nat) : Int) := by exact_mod_cast e
  exact_mod_cast e2
/-- two rows: few bases take them together -/
theorem row_bases {n : Nat} {r s : List Rat} (h1 : r.length = n) (h2 : s.length = n) (ne : r ≠ s) {l : List Nat} (nd : l.Nodup) (h : ∀ b ∈ l, dotQ (pwR b n) r = dotQ (pwR b n) s) : l.length < n := by
  have := roots_few n (List.zipWith (fun a b => a - b) r s) (by rw [List.length_zipWith, h1, h2, Nat.min_self]) (sub_ne (by rw [h1, h2]) ne) (l.map fun b => (((b : Nat) : Int) : Rat)) (inj_cast nd) fun x hx => by
    obtain ⟨b, hb, rfl⟩ := List.mem_map.mp hx
    rw [ev_sub _ (by rw [h1, h2]), ← dot_pw h1, ← dot_pw h2, h b hb]
    grind
  rwa [List.length_map] at this
/-- rows taken one by one -/
def dayQ (b n : Nat) (T : List (List Rat)) : List Rat := T.map fun r => dotQ (pwR b n) r
theorem tab_bases {n : Nat} {T U : List (List Rat)} (l1 : T.length = U.length) (h1 : ∀ r ∈ T, r.length = n) (h2 : ∀ r ∈ U, r.length = n) (ne : T ≠ U) {l : List Nat} (nd : l.Nodup) (h : ∀ b ∈ l, dayQ b n T = dayQ b n U) : l.length < n := by
  induction T generalizing U with
  | nil =>
    cases U with
    | nil => exact absurd rfl ne
    | cons _ _ => simp at l1
  | cons r T ih =>
    cases U with
    | nil => simp at l1
    | cons s U =>
      by_cases e : r = s
      · refine ih (by simpa using l1) (fun r hr => h1 r (by simp [hr])) (fun r hr => h2 r (by simp [hr])) (fun z => ne (by rw [e, z])) fun b hb => ?_
        have := h b hb
        unfold dayQ at this ⊢
        simp only [List.map_cons, List.cons.injEq] at this
        exact this.2
      · refine row_bases (h1 r (by simp)) (h2 s (by simp)) e nd fun b hb => ?_
        have := h b hb
        unfold dayQ at this
        simp only [List.map_cons, List.cons.injEq] at this
        exact this.1
theorem filter_sum {α β : Type} (P : β → α → Bool) (ps : List β) : ∀ l : List α, (∀ a ∈ l, ∃ p ∈ ps, P p a = true) → l.length ≤ (ps.map fun p => (l.filter (P p)).length).sum := by
  intro l
  induction ps generalizing l with
  | nil =>
    intro h
    cases l with
    | nil => simp
    | cons a l => obtain ⟨p, hp, _⟩ := h a (by simp); cases hp
  | cons p ps ih =>
    intro h
    have k := ih (l.filter fun a => !P p a) fun a ha => by
      obtain ⟨m, n⟩ := List.mem_filter.mp ha
      obtain ⟨q, hq, hp⟩ := h a m
      rcases List.mem_cons.mp hq with rfl | hq
      · rw [hp] at n; cases n
      · exact ⟨q, hq, hp⟩
    have le : ((ps.map fun q => ((l.filter fun a => !P p a).filter (P q)).length)).sum ≤ (ps.map fun q => (l.filter (P q)).length).sum := by
      clear ih k h
      induction ps with
      | nil => simp
      | cons q ps ih =>
        simp only [List.map_cons, List.sum_cons]
        have : ((l.filter fun a => !P p a).filter (P q)).length ≤ (l.filter (P q)).length := by
          rw [List.filter_filter]
          refine List.Sublist.length_le ?_
          have : (l.filter fun a => P q a && !P p a) = (l.filter (P q)).filter fun a => !P p a := by
            rw [List.filter_filter]
            exact List.filter_congr fun a _ => by rw [Bool.and_comm]
          rw [this]
          exact List.filter_sublist
        omega
    have tot : l.length = (l.filter (P p)).length + (l.filter fun a => !P p a).length := by
      clear ih k le h
      induction l with
      | nil => rfl
      | cons a l ih =>
        simp only [List.filter_cons]
        cases P p a <;> simp <;> omega
    simp only [List.map_cons, List.sum_cons]
    omega
/-- a base that takes no two of them together -/
theorem good_base {n : Nat} (n6 : n ≤ 6) {Ts : List (List (List Rat))} (t6 : Ts.length ≤ 6) (h1 : ∀ T ∈ Ts, T.length = n) (h2 : ∀ T ∈ Ts, ∀ r ∈ T, r.length = n) : ∃ b, 1 ≤ b ∧ b ≤ 181 ∧ ∀ T ∈ Ts, ∀ U ∈ Ts, dayQ b n T = dayQ b n U → T = U := Classical.byContradiction fun z => by
  have all : ∀ b ∈ List.range' 1 181, ∃ p ∈ (Ts.flatMap fun T => Ts.map fun U => (T, U)), (decide (p.1 ≠ p.2 ∧ dayQ b n p.1 = dayQ b n p.2)) = true := fun b hb => by
    have := List.mem_range'_1.mp hb
    refine Classical.byContradiction fun y => z ⟨b, by omega, by omega, fun T hT U hU e => Classical.byContradiction fun ne => y ⟨(T, U), ?_, by simp [ne, e]⟩⟩
    exact List.mem_flatMap.mpr ⟨T, hT, List.mem_map.mpr ⟨U, hU, rfl⟩⟩
  have cnt := filter_sum (fun p b => decide (p.1 ≠ p.2 ∧ dayQ b n p.1 = dayQ b n p.2)) (Ts.flatMap fun T => Ts.map fun U => (T, U)) (List.range' 1 181) all
  rw [List.length_range'] at cnt
  have each : ∀ p ∈ (Ts.flatMap fun T => Ts.map fun U => (T, U)), ((List.range' 1 181).filter fun b => decide (p.1 ≠ p.2 ∧ dayQ b n p.1 = dayQ b n p.2)).length ≤ 5 := fun p hp => by
    obtain ⟨T, hT, hp⟩ := List.mem_flatMap.mp hp
    obtain ⟨U, hU, rfl⟩ := List.mem_map.mp hp
    show ((List.range' 1 181).filter fun b => decide (T ≠ U ∧ dayQ b n T = dayQ b n U)).length ≤ 5
    by_cases ne : T = U
    · have : ((List.range' 1 181).filter fun b => decide (T ≠ U ∧ dayQ b n T = dayQ b n U)) = [] := List.filter_eq_nil_iff.mpr fun b _ h => (of_decide_eq_true h).1 ne
      rw [this]
      decide
    · have := tab_bases (n := n) (by rw [h1 T hT, h1 U hU]) (h2 T hT) (h2 U hU) ne (l := (List.range' 1 181).filter fun b => decide (T ≠ U ∧ dayQ b n T = dayQ b n U)) ((List.nodup_range' (step := 1)).filter _) fun b hb => by
        have := (List.mem_filter.mp hb).2
        exact (of_decide_eq_true this).2
      omega
  have sum_le : ∀ (ps : List (List (List Rat) × List (List Rat))), (∀ p ∈ ps, ((List.range' 1 181).filter fun b => decide (p.1 ≠ p.2 ∧ dayQ b n p.1 = dayQ b n p.2)).length ≤ 5) → (ps.map fun p => ((List.range' 1 181).filter fun b => decide (p.1 ≠ p.2 ∧ dayQ b n p.1 = dayQ b n p.2)).length).sum ≤ 5 * ps.length := by
    intro ps
    induction ps with
    | nil => intro _; simp
    | cons p ps ih =>
      intro h
      have := h p (by simp)
      have := ih fun q hq => h q (by simp [hq])
      simp only [List.map_cons, List.sum_cons, List.length_cons]
      omega
  have s := sum_le _ each
  have len : (Ts.flatMap fun T => Ts.map fun U => (T, U)).length = Ts.length * Ts.length := by
    have key : ∀ l : List (List (List Rat)), (l.flatMap fun T => Ts.map fun U => (T, U)).length = l.length * Ts.length := by
      intro l
      induction l with
      | nil => simp
      | cons a l ih => simp [List.flatMap_cons, ih, Nat.succ_mul, Nat.add_comm]
    exact key Ts
  have : Ts.length * Ts.length ≤ 6 * 6 := Nat.mul_le_mul t6 t6
  omega

end Ag.k21

namespace Ag.k21
open PySem

/-! k21: sets of tables, the question, ways alike -/
theorem cod_natN : Cod (fun (k : Nat) => D.int (k : Int)) (fun (k : Nat) => PyData.int (k : Int)) 0 := ⟨fun _ => rfl, fun a b => by rw [eqv_int]; exact decide_eq_decide.mpr (by omega), fun _ => dp_int _, fun _ => rfl⟩
theorem minds_okN (hs : List Str) (ws : List (List (List Int))) (S : Sto) : F_Council_minds [cncl hs ws] S = .ok (.tup (hs.map .str)) S := rfl
def fracK (q : Rat) : NestedKey := .tup [.num q.num, .num ((q.den : Nat) : Int)]
def thK (r : List Rat) : NestedKey := .tup (r.map fracK)
def tabK (T : List (List Rat)) : NestedKey := .tup (T.map thK)
theorem optK_map {α : Type} {f : D → Option NestedKey} {e : α → D} {g : α → NestedKey} (h : ∀ x, f (e x) = some (g x)) : ∀ l : List α, optK f (l.map e) = some (l.map g)
  | [] => rfl
  | x :: l => by
    show ((f (e x)).bind fun k => (optK f (l.map e)).map (k :: ·)) = _
    rw [h, optK_map h l]
    rfl
theorem key_frac (f : Nat) (q : Rat) : keyF (f + 1) (frac q) = some (fracK q) := by
  cases f <;> rfl
theorem key_th (f : Nat) (r : List Rat) : keyF (f + 2) (thD r) = some (thK r) := by
  show (optK (keyF (f + 1)) (r.map frac)).map NestedKey.tup = _
  rw [optK_map (key_frac f)]
  rfl
theorem key_tab (f : Nat) (T : List (List Rat)) : keyF (f + 3) (tabD T) = some (tabK T) := by
  show (optK (keyF (f + 2)) (T.map thD)).map NestedKey.tup = _
  rw [optK_map (key_th f)]
  rfl
theorem frac_inj {p q : Rat} (h : fracK p = fracK q) : p = q := by
  unfold fracK at h
  injection h with h
  injection h with h1 h2
  injection h2 with h2 _
  injection h1 with h1
  injection h2 with h2
  exact Rat.ext h1 (by omega)
theorem map_inj21 {α β : Type} {f : α → β} (hf : ∀ a b, f a = f b → a = b) : ∀ {l m : List α}, l.map f = m.map f → l = m
  | [], [], _ => rfl
  | [], _ :: _, h => by simp at h
  | _ :: _, [], h => by simp at h
  | a :: l, b :: m, h => by
    simp only [List.map_cons, List.cons.injEq] at h
    rw [hf a b h.1, map_inj21 hf h.2]
theorem th_inj {p q : List Rat} (h : thK p = thK q) : p = q := by
  unfold thK at h
  injection h with h
  exact map_inj21 (fun _ _ => frac_inj) h
theorem tab_inj {p q : List (List Rat)} (h : tabK p = tabK q) : p = q := by
  unfold tabK at h
  injection h with h
  exact map_inj21 (fun _ _ => th_inj) h
theorem set_tabs {l : List (List (List Rat))} (h : l.length < 64) (S : Sto) : gLenSetN (.lst (l.map tabD)) S = some (.int (manyN l : Nat)) := by
  have e : (rdOf (.lst (l.map tabD)) S).bind (optK (keyF 8)) = some (l.map tabK) := optK_map (key_tab 5) l
  have t : (l.map tabK).all tupK = true := by
    rw [List.all_map, List.all_eq_true]
    exact fun _ _ => rfl
  unfold gLenSetN
  rw [e]
  simp only [Option.bind_some]
  rw [if_pos ⟨by rw [List.length_map]; exact h, t⟩, many_map_inj fun x _ y _ => tab_inj]
theorem set_ths {l : List (List Rat)} (h : l.length < 64) (S : Sto) : gLenSetN (.lst (l.map thD)) S = some (.int (manyN l : Nat)) := by
  have e : (rdOf (.lst (l.map thD)) S).bind (optK (keyF 8)) = some (l.map thK) := optK_map (key_th 6) l
  have t : (l.map thK).all tupK = true := by
    rw [List.all_map, List.all_eq_true]
    exact fun _ _ => rfl
  unfold gLenSetN
  rw [e]
  simp only [Option.bind_some]
  rw [if_pos ⟨by rw [List.length_map]; exact h, t⟩, many_map_inj fun x _ y _ => th_inj]
/-! the question -/
def powB (b k : Nat) : D := .tup [.int ((b ^ k : Nat) : Int), .int 1]
theorem pw_d (b n : Nat) : (pwR b n).map frac = (List.range n).map (powB b) := by
  unfold pwR
  rw [List.map_map]
  rfl
theorem pw_le {b n : Nat} (hb : b ≤ 181) (hn : n ≤ 6) : b ^ n < 2 ^ 50 := by
  have h1 : b ^ n ≤ 181 ^ n := Nat.pow_le_pow_left hb n
  have h2 : 181 ^ n ≤ 181 ^ 6 := Nat.pow_le_pow_right (by decide) hn
  have h3 : 181 ^ 6 < 2 ^ 50 := by decide
  omega
theorem pw_sz {b n : Nat} (hb : b ≤ 181) (hn : n ≤ 6) : Sz n 0 (pwR b n) := by
  refine ⟨by simp [pwR], 1, 2 ^ 50, by decide, by decide, by decide, fun t ht => ?_⟩
  obtain ⟨j, hj, rfl⟩ := List.mem_map.mp ht
  have hj : j < n := by simpa using hj
  refine ⟨((b ^ j : Nat) : Int), ?_, ?_⟩
  · rw [mkRat_div]
    have o : ((1 : Nat) : Rat) = 1 := rfl
    rw [o]
    grind
  · have := pw_le (b := b) (n := j) hb (by omega)
    simp only [Int.natAbs_natCast]
    omega
def Tells (ws : List (List (List Int))) (n b : Nat) : Prop := 1 ≤ b ∧ manyN (ws.map fun w => dayR w (pwR b n)) = manyN (ws.map evenR)
theorem tells_inj {ws : List (List (List Int))} {n b : Nat} (h : Tells ws n b) {v w : List (List Int)} (hv : v ∈ ws) (hw : w ∈ ws) (e : dayR v (pwR b n) = dayR w (pwR b n)) : evenR v = evenR w := by
  have em : (ws.map fun w => dayR w (pwR b n)) = (ws.map evenR).map (dayQ b n) := by
    rw [List.map_map]
    exact List.map_congr_left fun w _ => day_evq w _
  have h2 := h.2
  rw [em] at h2
  refine (many_le_map (dayQ b n) (ws.map evenR)).2 h2 _ (List.mem_map.mpr ⟨v, hv, rfl⟩) _ (List.mem_map.mpr ⟨w, hw, rfl⟩) ?_
  rw [day_evq, day_evq] at e
  exact e
theorem tells_some {ws : List (List (List Int))} {n : Nat} (hw : ∀ w ∈ ws, WayOk n w) (hn : n ≤ 6) (h6 : ws.length ≤ 6) : ∃ b, b ≤ 181 ∧ Tells ws n b := by
  obtain ⟨b, b1, b2, inj⟩ := good_base hn (Ts := ws.map evenR) (by simpa using h6) (fun T hT => by
    obtain ⟨w, hm, rfl⟩ := List.mem_map.mp hT
    unfold evenR
    rw [List.length_map]
    exact (hw w hm).len) (fun T hT r hr => by
    obtain ⟨w, hm, rfl⟩ := List.mem_map.mp hT
    obtain ⟨q, hq, rfl⟩ := List.mem_map.mp hr
    rw [List.length_map]
    exact ((hw w hm).row q hq).len)
  refine ⟨b, b2, b1, ?_⟩
  have em : (ws.map fun w => dayR w (pwR b n)) = (ws.map evenR).map (dayQ b n) := by
    rw [List.map_map]
    exact List.map_congr_left fun w _ => day_evq w _
  rw [em, many_map_inj inj]
theorem ask_ok {hs : List Str} {ws : List (List (List Int))} (H : Heads hs) (hw : ∀ w ∈ ws, WayOk hs.length w) (h6 : ws.length ≤ 6) {S : Sto} (hS : Cl S) : ∃ b, b ≤ 181 ∧ Tells ws hs.length b ∧ F_ask [cncl hs ws] S = .ok (thD (pwR b hs.length)) S := by
  have hn := H.six
  obtain ⟨b1, k1, k2⟩ := tells_some hw hn h6
  obtain ⟨b0, le, t0, least⟩ := L2.st_least (p := Tells ws hs.length) b1 k2
  refine ⟨b0, by omega, t0, ?_⟩
  have p1 := t0.1
  unfold F_ask
  refine scop_pure hS ?_
  simp only [f_run, List.map_cons, List.map_nil, List.length_cons, List.length_nil, Nat.zero_add, Nat.reduceAdd, Nat.reduceSub, List.replicate_succ, List.replicate_zero, List.cons_append, List.nil_append]
  unfold s_ask
  have st := set_tabs (l := ws.map evenR) (by rw [List.length_map]; omega)
  have eT : (ws.map fun w => tabD (evenR w)) = (ws.map evenR).map tabD := by rw [List.map_map]; rfl
  try simp only [p_seqL, stdQ, List.set_cons_zero, List.set_cons_succ, List.length_cons, List.length_nil, List.length_map, true_and, and_true, Bool.not_true, Bool.not_false, Bool.false_eq_true, if_false, if_true, decide_true, decide_false, not_true_eq_false, ne_eq, Nat.zero_le, chk_c]
  rw [later_eq]
  try simp only [p_seqL, stdQ, List.set_cons_zero, List.set_cons_succ, List.length_cons, List.length_nil, List.length_map, true_and, and_true, Bool.not_true, Bool.not_false, Bool.false_eq_true, if_false, if_true, decide_true, decide_false, not_true_eq_false, ne_eq, Nat.zero_le, cls_c, ways_ok]
  refine lc_mapT (xs := ws) (e := wayD) (g := fun w => tabD (evenR w)) (li_ls _) (len_line (by omega)) (fun w hm => ?_) ?_
  · try simp only [p_seqL, stdQ, List.set_cons_zero, List.set_cons_succ, List.length_cons, List.length_nil, List.length_map, true_and, and_true, Bool.not_true, Bool.not_false, Bool.false_eq_true, if_false, if_true, decide_true, decide_false, not_true_eq_false, ne_eq, Nat.zero_le, even_ok (hw w hm) hn]
  rw [eT]
  try simp only [p_seqL, stdQ, List.set_cons_zero, List.set_cons_succ, List.length_cons, List.length_nil, List.length_map, true_and, and_true, Bool.not_true, Bool.not_false, Bool.false_eq_true, if_false, if_true, decide_true, decide_false, not_true_eq_false, ne_eq, Nat.zero_le, st]
  rw [later_eq]
  refine wh_inv (fun m en S' => ∃ (b : Nat) (x3 x4 x5 : Option D), en = [some (cncl hs ws), some (.int (b : Int)), some (.int (manyN (ws.map evenR) : Nat)), x3, x4, x5, none] ∧ 1 ≤ b ∧ b + m = b0 ∧ S'.take S.length = S ∧ S.length ≤ S'.length) ?_ (n := b0 - 1) ⟨1, none, none, none, rfl, by decide, by omega, by simp, Nat.le_refl _⟩
  rintro m en S' ⟨b, x3, x4, x5, rfl, hb1, hbm, htk, hln⟩
  have hb181 : b ≤ 181 := by omega
  try simp only [p_seqL, stdQ, List.set_cons_zero, List.set_cons_succ, List.length_cons, List.length_nil, List.length_map, true_and, and_true, Bool.not_true, Bool.not_false, Bool.false_eq_true, if_false, if_true, decide_true, decide_false, not_true_eq_false, ne_eq, Nat.zero_le]
  try refine ⟨by decide, ?_⟩
  rw [later_eq]
  try simp only [p_seqL, stdQ, List.set_cons_zero, List.set_cons_succ, List.length_cons, List.length_nil, List.length_map, true_and, and_true, Bool.not_true, Bool.not_false, Bool.false_eq_true, if_false, if_true, decide_true, decide_false, not_true_eq_false, ne_eq, Nat.zero_le, cls_c, minds_okN]
  have ext : ∀ l : List D, (S' ++ [Ob.lst l]).take S.length = S := fun l => by rw [List.take_append_of_le_length hln]; exact htk
  refine for_T (xs := hs) (e := .str) (li_ls _) (fun k en T => ∃ y3, en = [some (cncl hs ws), some (.int (b : Int)), some (.int (manyN (ws.map evenR) : Nat)), y3, some (.ref S'.length), some (.int ((b ^ k : Nat) : Int)), none] ∧ T = S' ++ [.lst ((List.range k).map (powB b))]) ⟨_, rfl, rfl⟩ ?_ ?_
  · rintro k nm en T hk hm ⟨y3, rfl, rfl⟩
    have hkl := (List.getElem?_eq_some_iff.mp hk).1
    have mo : mulOk ((b ^ k : Nat) : Int) ((b : Nat) : Int) = true := by
      have p50 : (2 : Nat) ^ 50 = 1125899906842624 := by decide
      have q := pw_le hb181 (show k ≤ 6 by omega)
      exact mulOk_of (a := 50) (b := 50) (by rw [Int.natAbs_natCast]; exact q) (by rw [Int.natAbs_natCast]; omega) (by decide) (by decide) (by decide)
    have ap : fAppend (.ref S'.length) [.tup [.int ((b ^ k : Nat) : Int), .int 1]] (S' ++ [.lst ((List.range k).map (powB b))]) = some (.non, S' ++ [.lst ((List.range (k + 1)).map (powB b))]) := by
      rw [app_end (by rw [List.length_map, List.length_range]; unfold lineN; omega), List.range_succ, List.map_append]
      rfl
    try simp only [p_seqL, stdQ, List.set_cons_zero, List.set_cons_succ, List.length_cons, List.length_nil, List.length_map, true_and, and_true, Bool.not_true, Bool.not_false, Bool.false_eq_true, if_false, if_true, decide_true, decide_false, not_true_eq_false, ne_eq, Nat.zero_le, ok_ref at_end, ap]
    refine ⟨by decide, ?_⟩
    rw [later_eq]
    rw [p_aug (a := ((b ^ k : Nat) : Int)) rfl]
    try simp only [p_seqL, stdQ, List.set_cons_zero, List.set_cons_succ, List.length_cons, List.length_nil, List.length_map, true_and, and_true, Bool.not_true, Bool.not_false, Bool.false_eq_true, if_false, if_true, decide_true, decide_false, not_true_eq_false, ne_eq, Nat.zero_le, intD, fMul, mo]
    have eb : ((b ^ k : Nat) : Int) * ((b : Nat) : Int) = ((b ^ (k + 1) : Nat) : Int) := by rw [Nat.pow_succ, Int.natCast_mul]
    rw [eb]
    exact ⟨_, rfl⟩
  · rintro en T ⟨y3, rfl, rfl⟩
    have gt : gTup (.ref S'.length) (S' ++ [.lst ((List.range hs.length).map (powB b))]) = some (thD (pwR b hs.length)) := by
      have g0 : gTup (.ref S'.length) (S' ++ [.lst ((List.range hs.length).map (powB b))]) = some (.tup ((List.range hs.length).map (powB b))) := tup_ref at_end
      rw [g0, ← pw_d]; rfl
    have sz := pw_sz hb181 hn
    rw [later_eq]
    try simp only [p_seqL, stdQ, List.set_cons_zero, List.set_cons_succ, List.length_cons, List.length_nil, List.length_map, true_and, and_true, Bool.not_true, Bool.not_false, Bool.false_eq_true, if_false, if_true, decide_true, decide_false, not_true_eq_false, ne_eq, Nat.zero_le, cls_c, ways_ok]
    refine lc_mapT (xs := ws) (e := wayD) (g := fun w => thD (dayR w (pwR b hs.length))) (li_ls _) (len_line (by omega)) (fun w hm => ?_) ?_
    · have dy : F_day_of [wayD w, thD (pwR b hs.length)] (S' ++ [.lst ((List.range hs.length).map (powB b))]) = .ok (thD (dayR w (pwR b hs.length))) (S' ++ [.lst ((List.range hs.length).map (powB b))]) := day_of_ok sz (hw w hm) hn (by decide) _
      try simp only [p_seqL, stdQ, List.set_cons_zero, List.set_cons_succ, List.length_cons, List.length_nil, List.length_map, true_and, and_true, Bool.not_true, Bool.not_false, Bool.false_eq_true, if_false, if_true, decide_true, decide_false, not_true_eq_false, ne_eq, Nat.zero_le, gt, dy]
    · have eD : (ws.map fun w => thD (dayR w (pwR b hs.length))) = (ws.map fun w => dayR w (pwR b hs.length)).map thD := by rw [List.map_map]; rfl
      have sd := set_ths (l := ws.map fun w => dayR w (pwR b hs.length)) (by rw [List.length_map]; omega)
      have ce := cod_natN.eq (by decide) (manyN (ws.map fun w => dayR w (pwR b hs.length))) (manyN (ws.map evenR))
      rw [eD]
      try simp only [p_seqL, stdQ, List.set_cons_zero, List.set_cons_succ, List.length_cons, List.length_nil, List.length_map, true_and, and_true, Bool.not_true, Bool.not_false, Bool.false_eq_true, if_false, if_true, decide_true, decide_false, not_true_eq_false, ne_eq, Nat.zero_le, sd, ce, gt]
      by_cases c : manyN (ws.map fun w => dayR w (pwR b hs.length)) = manyN (ws.map evenR)
      · have e0 : b = b0 := by
          rcases Nat.lt_or_ge b b0 with z | z
          · exact absurd ⟨hb1, c⟩ (least b z)
          · omega
        try simp only [p_seqL, stdQ, List.set_cons_zero, List.set_cons_succ, List.length_cons, List.length_nil, List.length_map, true_and, and_true, Bool.not_true, Bool.not_false, Bool.false_eq_true, if_false, if_true, decide_true, decide_false, not_true_eq_false, ne_eq, Nat.zero_le, c, decide_true]
        subst e0
        exact ⟨rfl, nr_th _, ext _⟩
      · have lt : b < b0 := by
          rcases Nat.lt_or_ge b b0 with z | z
          · exact z
          · have : b = b0 := by omega
            subst this
            exact absurd t0.2 c
        try simp only [p_seqL, stdQ, List.set_cons_zero, List.set_cons_succ, List.length_cons, List.length_nil, List.length_map, true_and, and_true, Bool.not_true, Bool.not_false, Bool.false_eq_true, if_false, if_true, decide_true, decide_false, not_true_eq_false, ne_eq, Nat.zero_le, c, decide_false]
        rw [later_eq]
        rw [p_aug (a := (b : Int)) rfl]
        try simp only [p_seqL, stdQ, List.set_cons_zero, List.set_cons_succ, List.length_cons, List.length_nil, List.length_map, true_and, and_true, Bool.not_true, Bool.not_false, Bool.false_eq_true, if_false, if_true, decide_true, decide_false, not_true_eq_false, ne_eq, Nat.zero_le, intD]
        have e1 : (b : Int) + 1 = ((b + 1 : Nat) : Int) := by omega
        rw [e1]
        exact ⟨m - 1, by omega, b + 1, _, _, _, rfl, by omega, by omega, ext _, by simp; omega⟩
/-! ways alike -/
theorem like_row {n : Nat} {r s : List Int} (hr : RowOk n r) (hs : RowOk n s) : ((List.range n).filter fun j => decide (r.getD j 0 * s.sum ≠ s.getD j 0 * r.sum)) = [] ↔ (r.map fun (x : Int) => (x : Rat) / (r.sum : Rat)) = s.map fun (x : Int) => (x : Rat) / (s.sum : Rat) := by
  have pr := hr.pos
  have ps := hs.pos
  have nr : (r.sum : Rat) ≠ 0 := by
    have : r.sum ≠ 0 := by omega
    simpa using this
  have ns : (s.sum : Rat) ≠ 0 := by
    have : s.sum ≠ 0 := by omega
    simpa using this
  have one : ∀ x y : Int, x * s.sum = y * r.sum ↔ (x : Rat) / (r.sum : Rat) = (y : Rat) / (s.sum : Rat) := fun x y => by
    have e : x * s.sum = y * r.sum ↔ (x : Rat) * (s.sum : Rat) = (y : Rat) * (r.sum : Rat) := by
      rw [← Rat.intCast_mul, ← Rat.intCast_mul]
      exact ⟨fun h => by rw [h], fun h => by exact_mod_cast h⟩
    rw [e]
    generalize (s.sum : Rat) = a at *
    generalize (r.sum : Rat) = b at *
    constructor
    · intro h
      have : (x : Rat) / b = (x : Rat) * a / (b * a) := by grind
      rw [this, h]
      grind
    · intro h
      have h2 : (x : Rat) / b * (b * a) = (y : Rat) / a * (b * a) := by rw [h]
      grind
  rw [List.filter_eq_nil_iff]
  constructor
  · intro h
    apply List.ext_getElem
    · rw [List.length_map, List.length_map, hr.len, hs.len]
    · intro j h1 h2
      rw [List.getElem_map, List.getElem_map]
      have jn : j < n := by rw [List.length_map, hr.len] at h1; exact h1
      have := h j (List.mem_range.mpr jn)
      have e1 : r.getD j 0 = r[j]'(by rw [hr.len]; exact jn) := by simp [List.getD, List.getElem?_eq_getElem (show j < r.length by rw [hr.len]; exact jn)]
      have e2 : s.getD j 0 = s[j]'(by rw [hs.len]; exact jn) := by simp [List.getD, List.getElem?_eq_getElem (show j < s.length by rw [hs.len]; exact jn)]
      rw [e1, e2] at this
      exact (one _ _).mp (by simpa using this)
  · intro h j hj
    have jn := List.mem_range.mp hj
    have h1 : j < r.length := by rw [hr.len]; exact jn
    have h2 : j < s.length := by rw [hs.len]; exact jn
    have e1 : r.getD j 0 = r[j] := by simp [List.getD, List.getElem?_eq_getElem h1]
    have e2 : s.getD j 0 = s[j] := by simp [List.getD, List.getElem?_eq_getElem h2]
    have g : (r.map fun (x : Int) => (x : Rat) / (r.sum : Rat))[j]? = (s.map fun (x : Int) => (x : Rat) / (s.sum : Rat))[j]? := by rw [h]
    rw [List.getElem?_map, List.getElem?_map, List.getElem?_eq_getElem h1, List.getElem?_eq_getElem h2] at g
    simp only [Option.map_some, Option.some.injEq] at g
    rw [e1, e2]
    have := (one _ _).mpr g
    simp [this]
theorem like_ok {n : Nat} {v w : List (List Int)} (hv : WayOk n v) (hw : WayOk n w) (hn : n ≤ 6) (S : Sto) : F_is_like_l [wayD v, wayD w] S = .ok (.bl (decide (evenR v = evenR w))) S := by
  unfold F_is_like_l
  apply sat_eq
  simp only [f_run, List.map_cons, List.map_nil, List.length_cons, List.length_nil, Nat.zero_add, Nat.reduceAdd, Nat.reduceSub, List.replicate_succ, List.replicate_zero, List.cons_append, List.nil_append]
  unfold s_is_like_l
  have ln : gLen (wayD v) S = some (.int (n : Int)) := by
    show some (D.int (List.length _)) = _
    rw [List.length_map, hv.len]
  have r1 := fun S => rg1_len n S (by omega)
  have row : ∀ {u : List (List Int)}, WayOk n u → ∀ k, k < n → RowOk n (u.getD k []) ∧ fIx (wayD u) (.int (k : Int)) S = some (rowD (u.getD k [])) := fun {u} hu k hk => by
    have hl : k < u.length := by rw [hu.len]; exact hk
    have e : u.getD k [] = u[k] := by simp [List.getD, List.getElem?_eq_getElem hl]
    rw [e]
    refine ⟨hu.row _ (List.getElem_mem hl), ?_⟩
    show fIx (.tup _) _ S = _
    rw [ix_k, List.getElem?_map, List.getElem?_eq_getElem hl]; rfl
  have el : ∀ {r : List Int}, RowOk n r → ∀ j, j < n → fIx (rowD r) (.int (j : Int)) S = some (.int (r.getD j 0)) := fun {r} hr j hj => by
    have hl : j < r.length := by rw [hr.len]; exact hj
    show fIx (.tup _) _ S = _
    rw [ix_k, List.getElem?_map, List.getElem?_eq_getElem hl]
    simp [List.getD, List.getElem?_eq_getElem hl]
  have sm : ∀ r : List Int, gSum (rowD r) S = some (.int r.sum) := fun r => sum_tup r S
  try simp only [p_seqL, stdQ, List.set_cons_zero, List.set_cons_succ, List.length_cons, List.length_nil, List.length_map, true_and, and_true, Bool.not_true, Bool.not_false, Bool.false_eq_true, if_false, if_true, decide_true, decide_false, not_true_eq_false, ne_eq, Nat.zero_le, ln, r1]
  refine for_T (li_rg0 _) (fun k en S' => ∃ x2 x3 x4, en = [some (wayD v), some (wayD w), x2, x3, x4, none] ∧ S' = S ∧ ∀ i, i < k → (evenR v).getD i [] = (evenR w).getD i []) ⟨none, none, none, rfl, rfl, fun i hi => absurd hi (by omega)⟩ ?_ ?_
  · rintro k k' en S' hk hkm ⟨x2, x3, x4, rfl, rfl, same⟩
    have ek : k' = k := by have := (List.getElem?_eq_some_iff.mp hk).2; simpa using this.symm
    have hkn : k < n := by have := (List.getElem?_eq_some_iff.mp hk).1; simpa using this
    rw [ek]
    obtain ⟨rv, iv⟩ := row hv k hkn
    obtain ⟨rw', iw⟩ := row hw k hkn
    have ev : ∀ {u : List (List Int)}, WayOk n u → (evenR u).getD k [] = (u.getD k []).map fun (x : Int) => (x : Rat) / ((u.getD k []).sum : Rat) := fun {u} hu => by
      have hl : k < u.length := by rw [hu.len]; exact hkn
      unfold evenR
      simp only [List.getD_eq_getElem?_getD, List.getElem?_map, List.getElem?_eq_getElem hl, Option.map_some, Option.getD_some]
    have lr := like_row rv rw'
    rw [← ev hv, ← ev hw] at lr
    try simp only [p_seqL, stdQ, List.set_cons_zero, List.set_cons_succ, List.length_cons, List.length_nil, List.length_map, true_and, and_true, Bool.not_true, Bool.not_false, Bool.false_eq_true, if_false, if_true, decide_true, decide_false, not_true_eq_false, ne_eq, Nat.zero_le, iv, iw, sm]
    try refine ⟨by decide, ?_⟩
    rw [later_eq]
    try simp only [p_seqL, stdQ, List.set_cons_zero, List.set_cons_succ, List.length_cons, List.length_nil, List.length_map, true_and, and_true, Bool.not_true, Bool.not_false, Bool.false_eq_true, if_false, if_true, decide_true, decide_false, not_true_eq_false, ne_eq, Nat.zero_le, ln, r1]
    refine lc_filT (xs := List.range n) (g := fun j => .int (j : Int)) (p := fun j => decide ((v.getD k []).getD j 0 * (w.getD k []).sum ≠ (w.getD k []).getD j 0 * (v.getD k []).sum)) (li_rg0 _) (by rw [List.length_range]; exact len_line (by omega)) (fun j hj => ?_) ?_
    · have hjn : j < n := by simpa using hj
      have bv : ∀ {r : List Int}, RowOk n r → (r.getD j 0).natAbs < 2 ^ 40 := fun {r} hr => by
        have hl : j < r.length := by rw [hr.len]; exact hjn
        have e : r.getD j 0 = r[j] := by simp [List.getD, List.getElem?_eq_getElem hl]
        have := hr.in_ _ (List.getElem_mem hl)
        have p : (2 : Nat) ^ 40 = 1099511627776 := by decide
        rw [e]
        omega
      have bs : ∀ {r : List Int}, RowOk n r → r.sum.natAbs < 2 ^ 40 := fun {r} hr => Nat.lt_trans (hr.sum_lt hn) (by decide)
      have m1 : mulOk ((v.getD k []).getD j 0) (w.getD k []).sum = true := mulOk_of (bv rv) (bs rw') (by decide) (by decide) (by decide)
      have m2 : mulOk ((w.getD k []).getD j 0) (v.getD k []).sum = true := mulOk_of (bv rw') (bs rv) (by decide) (by decide) (by decide)
      try simp only [p_seqL, stdQ, List.set_cons_zero, List.set_cons_succ, List.length_cons, List.length_nil, List.length_map, true_and, and_true, Bool.not_true, Bool.not_false, Bool.false_eq_true, if_false, if_true, decide_true, decide_false, not_true_eq_false, ne_eq, Nat.zero_le, iv, iw, el rv j hjn, el rw' j hjn, fMul, m1, m2, ne_int]
      exact fun _ => trivial
    · have ne := cod_natN.lst.ne (by decide) ((List.range n).filter fun j => decide ((v.getD k []).getD j 0 * (w.getD k []).sum ≠ (w.getD k []).getD j 0 * (v.getD k []).sum)) [] S'
      have ne : fNe (.lst (((List.range n).filter fun j => decide ((v.getD k []).getD j 0 * (w.getD k []).sum ≠ (w.getD k []).getD j 0 * (v.getD k []).sum)).map fun (j : Nat) => .int (j : Int))) (.lst []) S' = some (.bl (!decide (((List.range n).filter fun j => decide ((v.getD k []).getD j 0 * (w.getD k []).sum ≠ (w.getD k []).getD j 0 * (v.getD k []).sum)) = []))) := ne
      try simp only [p_seqL, stdQ, List.set_cons_zero, List.set_cons_succ, List.length_cons, List.length_nil, List.length_map, true_and, and_true, Bool.not_true, Bool.not_false, Bool.false_eq_true, if_false, if_true, decide_true, decide_false, not_true_eq_false, ne_eq, Nat.zero_le, ne]
      by_cases c : ((List.range n).filter fun j => decide ((v.getD k []).getD j 0 * (w.getD k []).sum ≠ (w.getD k []).getD j 0 * (v.getD k []).sum)) = []
      · try simp only [p_seqL, stdQ, List.set_cons_zero, List.set_cons_succ, List.length_cons, List.length_nil, List.length_map, true_and, and_true, Bool.not_true, Bool.not_false, Bool.false_eq_true, if_false, if_true, decide_true, decide_false, not_true_eq_false, ne_eq, Nat.zero_le, c, decide_true, Bool.not_true]
        have e := lr.mp c
        refine ⟨_, _, _, rfl, fun i hi => ?_⟩
        by_cases q : i = k
        · rw [q]; exact e
        · exact same i (by omega)
      · try simp only [p_seqL, stdQ, List.set_cons_zero, List.set_cons_succ, List.length_cons, List.length_nil, List.length_map, true_and, and_true, Bool.not_true, Bool.not_false, Bool.false_eq_true, if_false, if_true, decide_true, decide_false, not_true_eq_false, ne_eq, Nat.zero_le, c, decide_false, Bool.not_false]
        have nq : evenR v ≠ evenR w := fun z => c (lr.mpr (by rw [z]))
        rw [decide_eq_false nq]
  · rintro en S' ⟨x2, x3, x4, rfl, rfl, same⟩
    rw [List.length_range] at same
    rw [later_eq]
    try simp only [p_seqL, stdQ, List.set_cons_zero, List.set_cons_succ, List.length_cons, List.length_nil, List.length_map, true_and, and_true, Bool.not_true, Bool.not_false, Bool.false_eq_true, if_false, if_true, decide_true, decide_false, not_true_eq_false, ne_eq, Nat.zero_le]
    have e : evenR v = evenR w := by
      apply List.ext_getElem?
      intro i
      by_cases hi : i < n
      · have h1 : i < (evenR v).length := by unfold evenR; rw [List.length_map, hv.len]; exact hi
        have h2 : i < (evenR w).length := by unfold evenR; rw [List.length_map, hw.len]; exact hi
        have := same i hi
        simp only [List.getD_eq_getElem?_getD, List.getElem?_eq_getElem h1, List.getElem?_eq_getElem h2, Option.getD_some] at this
        rw [List.getElem?_eq_getElem h1, List.getElem?_eq_getElem h2, this]
      · rw [List.getElem?_eq_none (by unfold evenR; rw [List.length_map, hv.len]; omega), List.getElem?_eq_none (by unfold evenR; rw [List.length_map, hw.len]; omega)]
    rw [decide_eq_true e]

end Ag.k21

namespace Ag.k21
open PySem

/-! k21: ways, some again with other weights -/
def mxR : List Int → Int
  | [] => 0
  | n :: ns => ns.foldl max n
theorem mx_le {r : List Int} {y : Int} (h : y ∈ r) : y ≤ mxR r := by
  cases r with
  | nil => simp at h
  | cons n ns => exact (fold_max ns n).2 y h
theorem mx_tup {r : List Int} (h : r ≠ []) (S : Sto) : gMaxS (rowD r) S = some (.int (mxR r)) := by
  cases r with
  | nil => exact absurd rfl h
  | cons n ns => exact maxS_tup n ns S
theorem sum_by (b : Int) : ∀ r : List Int, (r.map fun x => b * x).sum = b * r.sum
  | [] => by simp
  | x :: r => by simp only [List.map_cons, List.sum_cons, sum_by b r, Int.mul_add]
theorem by_ok {n : Nat} {r : List Int} (h : RowOk n r) {b : Int} (b1 : 1 ≤ b) (b4 : b ≤ 4) (hm : b ≠ 1 → mxR r < 100000000) : RowOk n (r.map fun x => b * x) := by
  refine ⟨by rw [List.length_map]; exact h.len, fun x hx => ?_, by rw [sum_by]; exact Int.mul_pos (by omega) h.pos⟩
  obtain ⟨y, hy, rfl⟩ := List.mem_map.mp hx
  have h1 := h.in_ y hy
  by_cases e : b = 1
  · rw [e, Int.one_mul]; exact h1
  · have h2 := mx_le hy
    have h3 := hm e
    have bc : b = 2 ∨ b = 3 ∨ b = 4 := by omega
    rcases bc with rfl | rfl | rfl <;> omega
theorem up_ok {n : Nat} {x : Int} {r : List Int} (h : RowOk n (x :: r)) (hx : x < 1000000000) : RowOk n ((x + 1) :: r) := by
  have hx0 := (h.in_ x (by simp)).1
  refine ⟨by have := h.len; simpa using this, fun y hy => ?_, ?_⟩
  · rcases List.mem_cons.mp hy with rfl | hy
    · omega
    · exact h.in_ y (by simp [hy])
  · have := h.pos
    simp only [List.sum_cons] at this ⊢
    omega
theorem ix_last {S : Sto} {i : Nat} {l : List D} {d : D} (h : S[i]? = some (.lst (l ++ [d]))) : fIx (.ref i) (.int (-1)) S = some d := by
  have e : fIx (.ref i) (.int (-1)) S = (rdOf (.ref i) S).bind fun l => L2.atI l (-1) := rfl
  rw [e, rd_ref h]
  show L2.atI (l ++ [d]) (-1) = _
  unfold L2.atI L2.ixN
  rw [if_neg (by decide)]
  split
  · simp only [Option.bind_some]
    rw [show ((-1 : Int) + ((l ++ [d]).length : Int)).toNat = l.length by simp; omega]
    simp
  · rename_i z
    exact absurd z (by simp; omega)
theorem set_last {S : Sto} {i : Nat} {l : List D} {d e : D} (h : S[i]? = some (.lst (l ++ [d]))) : fSet (.ref i) (.int (-1)) e S = some (S.set i (.lst (l ++ [e]))) := by
  show (match S[i]? with | some (.lst l) => (L2.ixN l.length (-1)).map fun k => S.set i (.lst (l.set k e)) | _ => none) = _
  rw [h]
  show (L2.ixN (l ++ [d]).length (-1)).map _ = _
  unfold L2.ixN
  rw [if_neg (by decide)]
  split
  · simp only [Option.map_some]
    rw [show ((-1 : Int) + ((l ++ [d]).length : Int)).toNat = l.length by simp; omega]
    simp
  · rename_i z
    exact absurd z (by simp; omega)
theorem cut_drop21 (l : List D) (k : Nat) : cutD l (some (k : Int)) none = l.drop k := by
  simp only [cutD, HT.sIx_none, HT.sIx_nat]
  by_cases h : k ≤ l.length
  · rw [Nat.min_eq_left h, List.take_of_length_le (by rw [List.length_drop]; omega)]
  · rw [Nat.min_eq_right (by omega), List.take_of_length_le (by rw [List.length_drop]; omega), List.drop_of_length_le (Nat.le_refl _), List.drop_of_length_le (by omega)]
theorem add_tup21 {a b : List D} (h : a.length + b.length ≤ 1000) (S : Sto) : fAdd (.tup a) (.tup b) S = some (.tup (a ++ b)) := by
  show (if a.length + b.length ≤ lineN then _ else _) = _
  rw [if_pos (by unfold lineN; omega)]
theorem many_talks_ok {S : Sto} {i n : Nat} {ws : List (List (List Int))} (h : Jg S i) (w0 : ws ≠ []) (w4 : ws.length ≤ 4) (n1 : 1 ≤ n) (hn : n ≤ 6) (hw : ∀ w ∈ ws, WayOk n w) : (F_many_talks_l [.ref i, .tup (ws.map wayD)] S).sat fun v S' => (∃ vs, v = .tup (vs.map wayD) ∧ vs ≠ [] ∧ vs.length ≤ 6 ∧ ∀ w ∈ vs, WayOk n w) ∧ Lk S S' i := by
  have wp := List.length_pos_iff.mpr w0
  unfold F_many_talks_l
  refine scop_ok h.lt ?_
  simp only [f_run, List.map_cons, List.map_nil, List.length_cons, List.length_nil, Nat.zero_add, Nat.reduceAdd, Nat.reduceSub, List.replicate_succ, List.replicate_zero, List.cons_append, List.nil_append]
  unfold s_many_talks_l
  have hi := h.lt
  have p8 : ∀ S, fPow (.int 10) (.int 8) S = some (.int 100000000) := fun _ => rfl
  have p9 : ∀ S, fPow (.int 10) (.int 9) S = some (.int 1000000000) := fun _ => rfl
  have ng : ∀ S, fNeg (.int 1) S = some (.int (-1)) := fun _ => rfl
  try simp only [p_seqL, stdQ, List.set_cons_zero, List.set_cons_succ, List.length_cons, List.length_nil, List.length_map, true_and, and_true, Bool.not_true, Bool.not_false, Bool.false_eq_true, if_false, if_true, decide_true, decide_false, not_true_eq_false, ne_eq, Nat.zero_le, q_lstC1, seq_tup]
  have x0 : Ex S (S ++ [Ob.lst (ws.map wayD)]) i := (Ex.refl h).add (bel_lst (nr_map nr_way))
  have g0 : (S ++ [Ob.lst (ws.map wayD)])[S.length]? = some (.lst (ws.map wayD)) := at_end
  generalize S ++ [Ob.lst (ws.map wayD)] = S0 at x0 g0 ⊢
  rw [later_eq]
  try simp only [p_seqL, stdQ, List.set_cons_zero, List.set_cons_succ, List.length_cons, List.length_nil, List.length_map, true_and, and_true, Bool.not_true, Bool.not_false, Bool.false_eq_true, if_false, if_true, decide_true, decide_false, not_true_eq_false, ne_eq, Nat.zero_le]
  refine (sip_ok x0.jg (by decide) (by decide)).mono ?_
  rintro v S1 ⟨m, rfl, hm, l1⟩
  have r1 := rg1_len m S1 (by omega)
  have ni : S.length ≠ i := by omega
  have keep : ∀ {A B : Sto} {j : Nat} {o : Ob}, Lk A B i → j ≠ i → A[j]? = some o → B[j]? = some o := fun {A B j o} l nj e => by
    rw [l.oth j (List.getElem?_eq_some_iff.mp e).1 nj]; exact e
  try simp only [p_seqL, stdQ, List.set_cons_zero, List.set_cons_succ, List.length_cons, List.length_nil, List.length_map, true_and, and_true, Bool.not_true, Bool.not_false, Bool.false_eq_true, if_false, if_true, decide_true, decide_false, not_true_eq_false, ne_eq, Nat.zero_le, r1]
  refine for_T (li_rg0 _) (fun k en S' => ∃ x3 x4 x5 x6 x7 vs, en = [some (.ref i), some (.tup (ws.map wayD)), some (.ref S.length), x3, x4, x5, x6, x7, none] ∧ Ex S S' i ∧ S'[S.length]? = some (.lst (vs.map wayD)) ∧ vs.length = ws.length + k ∧ ∀ w ∈ vs, WayOk n w) ⟨none, none, none, none, none, ws, rfl, x0.trans l1.toEx, keep l1 ni g0, rfl, hw⟩ ?_ ?_
  · rintro k d en S2 hd hdm ⟨x3, x4, x5, x6, x7, vs, rfl, x2, g2, vl, vw⟩
    have hk : k < m := by have := (List.getElem?_eq_some_iff.mp hd).1; simpa using this
    try simp only [p_seqL, stdQ, List.set_cons_zero, List.set_cons_succ, List.length_cons, List.length_nil, List.length_map, true_and, and_true, Bool.not_true, Bool.not_false, Bool.false_eq_true, if_false, if_true, decide_true, decide_false, not_true_eq_false, ne_eq, Nat.zero_le]
    refine (sip_ok x2.jg (by omega) (by omega)).mono ?_
    rintro v S3 ⟨a, rfl, ha, l3⟩
    have hal : a < ws.length := by omega
    have ex : fIx (.tup (ws.map wayD)) (.int (a : Int)) S3 = some (wayD ws[a]) := by
      rw [ix_k]
      simp [hal]
    have wa := hw _ (List.getElem_mem hal)
    try simp only [p_seqL, stdQ, List.set_cons_zero, List.set_cons_succ, List.length_cons, List.length_nil, List.length_map, true_and, and_true, Bool.not_true, Bool.not_false, Bool.false_eq_true, if_false, if_true, decide_true, decide_false, not_true_eq_false, ne_eq, Nat.zero_le, ex]
    generalize ws[a] = w at wa
    have rn : ∀ r ∈ w, r ≠ [] := fun r hr z => by have := (wa.row r hr).len; rw [z] at this; simp at this; omega
    have wn : w ≠ [] := fun z => by have := wa.len; rw [z] at this; simp at this; omega
    have x3' := x2.trans l3.toEx
    have g3 := keep l3 ni g2
    have ln3 := x3'.len
    rw [later_eq]
    try simp only [p_seqL, stdQ, List.set_cons_zero, List.set_cons_succ, List.length_cons, List.length_nil, List.length_map, true_and, and_true, Bool.not_true, Bool.not_false, Bool.false_eq_true, if_false, if_true, decide_true, decide_false, not_true_eq_false, ne_eq, Nat.zero_le]
    have x4' : Ex S (S3 ++ [Ob.lst []]) i := x3'.add (bel_lst (by simp))
    have g4 : (S3 ++ [Ob.lst []])[S.length]? = some (.lst (vs.map wayD)) := by rw [List.getElem?_append_left (List.getElem?_eq_some_iff.mp g3).1]; exact g3
    have gj : (S3 ++ [Ob.lst []])[S3.length]? = some (.lst []) := at_end
    have nj : S3.length ≠ i := by omega
    have njs : S.length ≠ S3.length := fun z => by
      have := (List.getElem?_eq_some_iff.mp g3).1
      omega
    generalize ej : S3.length = j at gj nj njs ⊢
    generalize S3 ++ [Ob.lst []] = T0 at x4' g4 gj ⊢
    rw [later_eq]
    have itw : ∀ S, itOf (wayD w) S = some (lsIt (w.map rowD)) := fun _ => rfl
    try simp only [p_seqL, stdQ, List.set_cons_zero, List.set_cons_succ, List.length_cons, List.length_nil, List.length_map, true_and, and_true, Bool.not_true, Bool.not_false, Bool.false_eq_true, if_false, if_true, decide_true, decide_false, not_true_eq_false, ne_eq, Nat.zero_le, itw]
    refine for_T (xs := w) (e := rowD) (li_ls _) (fun q en T => ∃ y6 y7 rs, en = [some (.ref i), some (.tup (ws.map wayD)), some (.ref S.length), some (.int (d : Int)), some (wayD w), some (.ref j), y6, y7, none] ∧ Ex S T i ∧ T[S.length]? = some (.lst (vs.map wayD)) ∧ T[j]? = some (.lst (rs.map rowD)) ∧ rs.length = q ∧ ∀ r ∈ rs, RowOk n r) ⟨_, _, [], rfl, x4', g4, gj, rfl, fun r hr => by cases hr⟩ ?_ ?_
    · rintro q r en T hq hqm ⟨y6, y7, rs, rfl, xt, gt, gr, rl, rok⟩
      have hql := (List.getElem?_eq_some_iff.mp hq).1
      have rr := wa.row r hqm
      refine r_ok.mpr ?_
      simp only [List.set_cons_zero, List.set_cons_succ]
      rw [p_seqL, p_asgN]
      refine Res.sat.mono (P := fun v T' => ∃ b : Int, v = .int b ∧ 1 ≤ b ∧ b ≤ 4 ∧ (b ≠ 1 → mxR r < 100000000) ∧ Lk T T' i) ?_ ?_
      · try simp only [p_seqL, stdQ, List.set_cons_zero, List.set_cons_succ, List.length_cons, List.length_nil, List.length_map, true_and, and_true, Bool.not_true, Bool.not_false, Bool.false_eq_true, if_false, if_true, decide_true, decide_false, not_true_eq_false, ne_eq, Nat.zero_le, mx_tup (rn r hqm), p8, fLt, cmpI]
        by_cases c : mxR r < 100000000
        · simp only [c, decide_true, if_true]
          try simp only [p_seqL, stdQ, List.set_cons_zero, List.set_cons_succ, List.length_cons, List.length_nil, List.length_map, true_and, and_true, Bool.not_true, Bool.not_false, Bool.false_eq_true, if_false, if_true, decide_true, decide_false, not_true_eq_false, ne_eq, Nat.zero_le]
          refine (sip_ok xt.jg (by decide) (by decide)).mono ?_
          rintro v T' ⟨e, rfl, he, l4⟩
          try simp only [p_seqL, stdQ, List.set_cons_zero, List.set_cons_succ, List.length_cons, List.length_nil, List.length_map, true_and, and_true, Bool.not_true, Bool.not_false, Bool.false_eq_true, if_false, if_true, decide_true, decide_false, not_true_eq_false, ne_eq, Nat.zero_le]
          exact ⟨_, rfl, by omega, by omega, fun _ => trivial, l4⟩
        · simp only [c, decide_false, Bool.false_eq_true, if_false]
          try simp only [p_seqL, stdQ, List.set_cons_zero, List.set_cons_succ, List.length_cons, List.length_nil, List.length_map, true_and, and_true, Bool.not_true, Bool.not_false, Bool.false_eq_true, if_false, if_true, decide_true, decide_false, not_true_eq_false, ne_eq, Nat.zero_le]
          exact ⟨1, rfl, by decide, by decide, fun z => absurd rfl z, .refl xt.jg⟩
      · rintro v T' ⟨b, rfl, b1, b4, hb, l4⟩
        have gr' := keep l4 nj gr
        have gt' := keep l4 ni gt
        have xt' := xt.trans l4.toEx
        simp only [List.set_cons_zero, List.set_cons_succ]
        rw [later_eq]
        try simp only [p_seqL, stdQ, List.set_cons_zero, List.set_cons_succ, List.length_cons, List.length_nil, List.length_map, true_and, and_true, Bool.not_true, Bool.not_false, Bool.false_eq_true, if_false, if_true, decide_true, decide_false, not_true_eq_false, ne_eq, Nat.zero_le, ok_ref gr']
        refine lc_mapT (xs := r) (e := .int) (g := fun (x : Int) => .int (b * x)) (li_ls _) (by rw [rr.len]; exact len_line (by omega)) (fun x hx => ?_) ?_
        · have bx := rr.in_ x hx
          have p40 : (2 : Nat) ^ 40 = 1099511627776 := by decide
          have mo : mulOk b x = true := mulOk_of (a := 40) (b := 40) (by omega) (by omega) (by decide) (by decide) (by decide)
          try simp only [p_seqL, stdQ, List.set_cons_zero, List.set_cons_succ, List.length_cons, List.length_nil, List.length_map, true_and, and_true, Bool.not_true, Bool.not_false, Bool.false_eq_true, if_false, if_true, decide_true, decide_false, not_true_eq_false, ne_eq, Nat.zero_le, fMul, mo]
        · have e1 : D.tup (r.map fun (x : Int) => D.int (b * x)) = rowD (r.map fun x => b * x) := by
            unfold rowD
            rw [List.map_map]; rfl
          have gtp : ∀ (l : List D) (S : Sto), gTup (.lst l) S = some (.tup l) := fun _ _ => rfl
          try simp only [p_seqL, stdQ, List.set_cons_zero, List.set_cons_succ, List.length_cons, List.length_nil, List.length_map, true_and, and_true, Bool.not_true, Bool.not_false, Bool.false_eq_true, if_false, if_true, decide_true, decide_false, not_true_eq_false, ne_eq, Nat.zero_le, gtp, e1]
          have wl := wa.len
          rw [app_ref gr' (by rw [List.length_map]; unfold lineN; omega), os_some]
          have ea : rs.map rowD ++ [rowD (r.map fun x => b * x)] = (rs ++ [r.map fun x => b * x]).map rowD := by simp
          refine ⟨_, _, rs ++ [r.map fun x => b * x], rfl, ?_, ?_, by rw [set_get gr', ea], by simp [rl], fun u hu => ?_⟩
          · exact xt'.put (by omega) hi (bel_lst (by rw [ea]; exact nr_map nr_row))
          · rw [List.getElem?_set_ne (Ne.symm njs)]; exact gt'
          · rcases List.mem_append.mp hu with hu | hu
            · exact rok u hu
            · rw [List.mem_singleton.mp hu]; exact by_ok rr b1 b4 hb
    · rintro en T ⟨y6, y7, rs, rfl, xt, gt, gr, rl, rok⟩
      have rl : rs.length = n := by rw [rl, wa.len]
      rw [later_eq]
      try simp only [p_seqL, stdQ, List.set_cons_zero, List.set_cons_succ, List.length_cons, List.length_nil, List.length_map, true_and, and_true, Bool.not_true, Bool.not_false, Bool.false_eq_true, if_false, if_true, decide_true, decide_false, not_true_eq_false, ne_eq, Nat.zero_le]
      refine (sip_ok xt.jg (by decide) (by decide)).mono ?_
      rintro v T1 ⟨z, rfl, hz, l5⟩
      have gr1 := keep l5 nj gr
      have gt1 := keep l5 ni gt
      have xt1 := xt.trans l5.toEx
      obtain ⟨qs, x, u, rfl⟩ : ∃ qs x u, rs = qs ++ [x :: u] := by
        have r0 : rs ≠ [] := fun z => by rw [z] at rl; simp at rl; omega
        have e := (List.dropLast_concat_getLast r0).symm
        have lk := (rok (rs.getLast r0) (List.getLast_mem r0)).len
        cases q : rs.getLast r0 with
        | nil => rw [q] at lk; simp at lk; omega
        | cons x u => exact ⟨rs.dropLast, x, u, by rw [← q]; exact e⟩
      have em : ∀ (qs : List (List Int)) (v : List Int), (qs ++ [v]).map rowD = qs.map rowD ++ [rowD v] := fun qs v => by simp
      have rlast := rok (x :: u) (by simp)
      have fin : ∀ (vz : List (List Int)) (T2 : Sto), vz.length = n → (∀ r ∈ vz, RowOk n r) → Ex S T2 i → T2[S.length]? = some (.lst (vs.map wayD)) → T2[j]? = some (.lst (vz.map rowD)) → ((sExpr (mBM fAppend okLst (mVar 2) (mCons (mCB (f1 gTup) (mCons (mVar 5) mNil)) mNil))) [some (.ref i), some (.tup (ws.map wayD)), some (.ref S.length), some (.int (d : Int)), some (wayD w), some (.ref j), y6, y7, none] T2).sat (fun en S' => ∃ (x3 x4 x5 x6 x7 : Option D) (vs : List (List (List Int))), en = [some (.ref i), some (.tup (ws.map wayD)), some (.ref S.length), x3, x4, x5, x6, x7, none] ∧ Ex S S' i ∧ S'[S.length]? = some (.lst (vs.map wayD)) ∧ vs.length = ws.length + (k + 1) ∧ ∀ w ∈ vs, WayOk n w) (fun d S' => (∃ vs : List (List (List Int)), d = D.tup (vs.map wayD) ∧ vs ≠ [] ∧ vs.length ≤ 6 ∧ ∀ w ∈ vs, WayOk n w) ∧ Nr d ∧ Ex S S' i) := by
        intro vz T2 vlz vok xz gz gzj
        have gtz : gTup (.ref j) T2 = some (wayD vz) := tup_ref gzj
        try simp only [p_seqL, stdQ, List.set_cons_zero, List.set_cons_succ, List.length_cons, List.length_nil, List.length_map, true_and, and_true, Bool.not_true, Bool.not_false, Bool.false_eq_true, if_false, if_true, decide_true, decide_false, not_true_eq_false, ne_eq, Nat.zero_le, ok_ref gz, gtz]
        rw [app_ref gz (by rw [List.length_map]; unfold lineN; omega), os_some]
        have ea : vs.map wayD ++ [wayD vz] = (vs ++ [vz]).map wayD := by simp
        refine ⟨_, _, _, _, _, vs ++ [vz], rfl, xz.put (Nat.le_refl _) hi (bel_lst (by rw [ea]; exact nr_map nr_way)), by rw [set_get gz, ea], by simp [vl]; omega, fun w' hw' => ?_⟩
        rcases List.mem_append.mp hw' with hw' | hw'
        · exact vw w' hw'
        · rw [List.mem_singleton.mp hw']; exact ⟨vlz, vok⟩
      have il := ix_last (S := T1) (i := j) (l := qs.map rowD) (d := rowD (x :: u)) (by rw [← em]; exact gr1)
      have i0 : fIx (rowD (x :: u)) (.int 0) T1 = some (.int x) := ix_k _ 0 T1
      have ez := cod_natN.eq (by decide) z 0 T1
      have ez : fEq (.int (z : Int)) (.int 0) T1 = some (.bl (decide (z = 0))) := ez
      try simp only [p_seqL, stdQ, List.set_cons_zero, List.set_cons_succ, List.length_cons, List.length_nil, List.length_map, true_and, and_true, Bool.not_true, Bool.not_false, Bool.false_eq_true, if_false, if_true, decide_true, decide_false, not_true_eq_false, ne_eq, Nat.zero_le, ez]
      by_cases z0 : z = 0
      · try simp only [p_seqL, stdQ, List.set_cons_zero, List.set_cons_succ, List.length_cons, List.length_nil, List.length_map, true_and, and_true, Bool.not_true, Bool.not_false, Bool.false_eq_true, if_false, if_true, decide_true, decide_false, not_true_eq_false, ne_eq, Nat.zero_le, z0, decide_true, ng, il, i0, p9, fLt, cmpI]
        by_cases c : x < 1000000000
        · simp only [c, decide_true, if_true]
          have sl : fSl (rowD (x :: u)) (some 1) none T1 = some (.tup (u.map .int)) := by
            show some (D.tup (cutD ((x :: u).map .int) (some 1) none)) = _
            rw [show ((1 : Int)) = ((1 : Nat) : Int) from rfl, cut_drop21]; rfl
          have ad : fAdd (.tup [.int (x + 1)]) (.tup (u.map .int)) T1 = some (rowD ((x + 1) :: u)) := by
            have lu := rlast.len
            rw [add_tup21 (by simp at lu ⊢; omega)]; rfl
          have st := set_last (S := T1) (i := j) (l := qs.map rowD) (d := rowD (x :: u)) (e := rowD ((x + 1) :: u)) (by rw [← em]; exact gr1)
          rw [← em] at st
          try simp only [p_seqL, stdQ, List.set_cons_zero, List.set_cons_succ, List.length_cons, List.length_nil, List.length_map, true_and, and_true, Bool.not_true, Bool.not_false, Bool.false_eq_true, if_false, if_true, decide_true, decide_false, not_true_eq_false, ne_eq, Nat.zero_le, ng, il, i0, sl, ad, st]
          rw [later_eq]
          try refine ⟨by decide, ?_⟩
          refine fin (qs ++ [(x + 1) :: u]) (T1.set j (.lst ((qs ++ [(x + 1) :: u]).map rowD))) (by simpa using rl) (fun r hr => ?_) (xt1.put (j := j) (by omega) hi (bel_lst (nr_map nr_row))) (by rw [List.getElem?_set_ne (Ne.symm njs)]; exact gt1) (by rw [set_get gr1])
          rcases List.mem_append.mp hr with hr | hr
          · exact rok r (by simp [hr])
          · rw [List.mem_singleton.mp hr]; exact up_ok rlast c
        · simp only [c, decide_false, Bool.false_eq_true, if_false]
          try simp only [p_seqL, stdQ, List.set_cons_zero, List.set_cons_succ, List.length_cons, List.length_nil, List.length_map, true_and, and_true, Bool.not_true, Bool.not_false, Bool.false_eq_true, if_false, if_true, decide_true, decide_false, not_true_eq_false, ne_eq, Nat.zero_le]
          rw [later_eq]
          exact fin _ _ rl rok xt1 gt1 gr1
      · try simp only [p_seqL, stdQ, List.set_cons_zero, List.set_cons_succ, List.length_cons, List.length_nil, List.length_map, true_and, and_true, Bool.not_true, Bool.not_false, Bool.false_eq_true, if_false, if_true, decide_true, decide_false, not_true_eq_false, ne_eq, Nat.zero_le, z0, decide_false]
        rw [later_eq]
        exact fin _ _ rl rok xt1 gt1 gr1
  · rintro en S2 ⟨x3, x4, x5, x6, x7, vs, rfl, x2, g2, vl, vw⟩
    rw [List.length_range] at vl
    rw [later_eq]
    have t2 : gTup (.ref S.length) S2 = some (.tup (vs.map wayD)) := tup_ref g2
    try simp only [p_seqL, stdQ, List.set_cons_zero, List.set_cons_succ, List.length_cons, List.length_nil, List.length_map, true_and, and_true, Bool.not_true, Bool.not_false, Bool.false_eq_true, if_false, if_true, decide_true, decide_false, not_true_eq_false, ne_eq, Nat.zero_le, t2]
    exact ⟨⟨vs, rfl, fun z => by rw [z] at vl; simp at vl; omega, by omega, vw⟩, nr_tup (nr_map nr_way), x2⟩

end Ag.k21

namespace Ag.k21
open PySem

/-! k21: groups, all turns -/
theorem lc_refF {α : Type} {xs : List α} {e g : α → D} {p : α → Bool} {n : Nat} {gm : GM} {t : BM} {me : EM} {en : En} {S : Sto} {PL : List D → Sto → Prop} (h : S[n]? = some (.lst (xs.map e))) (hlen : xs.length ≤ lineN) (step : ∀ x ∈ xs, (gm (e x) en S).sat fun en1 S1 => (t en1 S1).sat fun c S2 => c = p x ∧ S2 = S ∧ (c = true → (me en1 S2).sat fun y S3 => y = g x ∧ S3 = S)) (fin : PL ((xs.filter p).map g) S) :
    osat (itOf (.ref n) S) fun it => (lcM it.nxt gm t me en it.n 0 [] S).sat PL := by
  refine lc_ref h (fun k acc S' => acc = ((xs.take k).filter p).map g ∧ S' = S ∧ k ≤ xs.length) (fun k acc S' i => by rw [i.2.1]; exact h) ⟨by simp, rfl, Nat.zero_le _⟩ (fun k d acc S' hd i => ?_) (fun acc S' i => ?_)
  · obtain ⟨x, hm, hx, rfl⟩ := map_get hd
    obtain ⟨rfl, rfl, hkl⟩ := i
    have hk := (List.getElem?_eq_some_iff.mp hx).1
    have et : xs.take (k + 1) = xs.take k ++ [x] := by rw [List.take_add_one, hx]; rfl
    refine (step x hm).mono fun en1 S1 z => z.mono fun c S2 q => ?_
    obtain ⟨rfl, rfl, q⟩ := q
    have len : (((xs.take k).filter p).map g).length < lineN := by
      have := List.length_filter_le p (xs.take k)
      rw [List.length_take] at this
      rw [List.length_map]
      omega
    by_cases c : p x = true
    · rw [if_pos c]
      refine (q c).mono fun y S3 r => ⟨len, ?_, r.2, hk⟩
      rw [r.1, et, List.filter_append, List.map_append]
      simp [c]
    · rw [if_neg c]
      refine ⟨?_, rfl, hk⟩
      rw [et, List.filter_append, List.map_append]
      simp [c]
  · obtain ⟨rfl, rfl, _⟩ := i
    simpa using fin
theorem ne_text21 (x : Str) (S : Sto) : fNe (.str x) (.str x) S = some (.bl false) := by simp [fNe]
theorem cod_b21 : Cod (fun b => D.bl b) (fun b => PyData.bool b) 0 := ⟨fun _ => rfl, fun a b => by cases a <;> cases b <;> rfl, fun _ => dp_bl _, fun _ => rfl⟩
theorem eq_th21 (a b : List Rat) (S : Sto) : fEq (thD a) (thD b) S = some (.bl (decide (a = b))) := by
  show eqD _ _ S = _
  have sa := pl_sh (pl_th a) (py_th a)
  have sb := pl_sh (pl_th b) (py_th b)
  simp only [eqD, pyS_py (py_th a), pyS_py (py_th b), sa, sb, and_self, if_true, eqv_th]
theorem ev_get21 (ws : List (List (List Int))) (a : Nat) : (ws.map evenR).getD a [] = evenR (ws.getD a []) := by
  by_cases h : a < ws.length
  · simp [List.getD, h]
  · simp [List.getD, h, evenR]
section
variable {T : List (List (List Rat))}
def lotT (T : List (List (List Rat))) (a : Nat) : List Nat := (List.range T.length).filter fun q => decide (T.getD q [] = T.getD a [])
theorem mem_lotT {a j : Nat} : j ∈ lotT T a ↔ j < T.length ∧ T.getD j [] = T.getD a [] := by
  unfold lotT
  rw [List.mem_filter, List.mem_range, decide_eq_true_eq]
theorem lotT_eq {a b : Nat} (h : T.getD a [] = T.getD b []) : lotT T a = lotT T b := by unfold lotT; rw [h]
theorem mem_alt {l : List Nat} {k : Nat} : l ∈ altR T k ↔ ∃ b, b < k ∧ T.getD b [] ∉ T.take b ∧ l = lotT T b := by
  unfold altR
  rw [List.mem_flatMap]
  constructor
  · rintro ⟨b, hb, h⟩
    have hb := List.mem_range.mp hb
    split at h
    · simp at h
    · rename_i c
      exact ⟨b, hb, c, List.mem_singleton.mp h⟩
  · rintro ⟨b, hb, c, rfl⟩
    refine ⟨b, List.mem_range.mpr hb, ?_⟩
    rw [if_neg c]
    exact List.mem_singleton.mpr rfl
theorem mem_take21 {x : List (List Rat)} {k : Nat} (hk : k ≤ T.length) : x ∈ T.take k ↔ ∃ b, b < k ∧ T.getD b [] = x := by
  constructor
  · intro h
    obtain ⟨b, hb⟩ := List.getElem?_of_mem h
    have hl := (List.getElem?_eq_some_iff.mp hb).1
    rw [List.length_take] at hl
    rw [List.getElem?_take_of_lt (by omega)] at hb
    exact ⟨b, by omega, by simp [List.getD, hb]⟩
  · rintro ⟨b, hb, rfl⟩
    have hl : b < T.length := by omega
    have e : T.getD b [] = T[b] := by simp [List.getD, List.getElem?_eq_getElem hl]
    rw [e]
    exact List.mem_iff_getElem?.mpr ⟨b, by rw [List.getElem?_take_of_lt hb]; exact List.getElem?_eq_getElem hl⟩
theorem alt_some {a k : Nat} (ha : a < T.length) (hk : k ≤ T.length) : (∃ l ∈ altR T k, a ∈ l) ↔ T.getD a [] ∈ T.take k := by
  constructor
  · rintro ⟨l, hl, hal⟩
    obtain ⟨b, hb, _, rfl⟩ := mem_alt.mp hl
    exact (mem_take21 hk).mpr ⟨b, hb, (mem_lotT.mp hal).2.symm⟩
  · intro h
    obtain ⟨b, hb, e⟩ := (mem_take21 hk).mp h
    obtain ⟨c, hc, ec, least⟩ := L2.st_least (p := fun b => T.getD b [] = T.getD a []) b e
    refine ⟨lotT T c, mem_alt.mpr ⟨c, by omega, fun z => ?_, rfl⟩, mem_lotT.mpr ⟨ha, ec.symm⟩⟩
    obtain ⟨d, hd, ed⟩ := (mem_take21 (show c ≤ T.length by omega)).mp z
    exact least d hd (by rw [ed]; exact ec)
theorem alt_same {a j : Nat} (ha : a < T.length) (hj : j < T.length) : (∃ l ∈ altR T T.length, a ∈ l ∧ j ∈ l) ↔ T.getD a [] = T.getD j [] := by
  constructor
  · rintro ⟨l, hl, h1, h2⟩
    obtain ⟨b, _, _, rfl⟩ := mem_alt.mp hl
    rw [(mem_lotT.mp h1).2, (mem_lotT.mp h2).2]
  · intro e
    obtain ⟨l, hl, h1⟩ := (alt_some ha (Nat.le_refl _)).mpr (by
      rw [List.take_length]
      have : T.getD a [] = T[a] := by simp [List.getD, List.getElem?_eq_getElem ha]
      rw [this]; exact List.getElem_mem ha)
    refine ⟨l, hl, h1, ?_⟩
    obtain ⟨b, _, _, rfl⟩ := mem_alt.mp hl
    exact mem_lotT.mpr ⟨hj, by rw [← e]; exact (mem_lotT.mp h1).2⟩
theorem alt_first {a : Nat} (ha : a < T.length) : ∃ r, (altR T T.length).filter (fun l => decide (a ∈ l)) = lotT T a :: r := by
  obtain ⟨l, hl, h1, _⟩ := (alt_same ha ha).mpr rfl
  cases q : (altR T T.length).filter fun l => decide (a ∈ l) with
  | nil => exact absurd (List.filter_eq_nil_iff.mp q l hl) (by simp [h1])
  | cons m r =>
    have hm : m ∈ (altR T T.length).filter fun l => decide (a ∈ l) := by rw [q]; simp
    obtain ⟨m1, m2⟩ := List.mem_filter.mp hm
    obtain ⟨b, _, _, rfl⟩ := mem_alt.mp m1
    have e := (mem_lotT.mp (of_decide_eq_true m2)).2
    exact ⟨r, by rw [lotT_eq e]⟩
end
theorem rep_two (d : D) (S : Sto) : fMul (.lst [d]) (.int 2) S = some (.lst [d, d]) := by
  show (if 0 ≤ (2 : Int) ∧ (2 : Int) ≤ 1000 ∧ ([d]).length ≤ 1000 then some (D.lst (List.replicate (2 : Int).toNat [d]).flatten) else none) = _
  rw [if_pos ⟨by omega, by omega, by simp⟩]
  rfl
theorem pick1 (a : D) : pick [0] [a] = [a] := rfl
theorem rg1_4 (S : Sto) : rg1 [.int 4] S = some (rgIt 0 4) := rg1_len 4 S (by decide)
theorem alt_repr {T : List (List (List Rat))} (t6 : T.length ≤ 6) (S : Sto) : ∃ t, gRepr (.lst [.tup ((altR T T.length).map wordD), .tup ((altR T T.length).map wordD)]) S = some (.str t) := by
  have q0 : ∀ d ∈ (altR T T.length).map wordD, Rb 1 600 d := fun d hd => by
    obtain ⟨l, hl, rfl⟩ := List.mem_map.mp hd
    obtain ⟨b, _, _, rfl⟩ := mem_alt.mp hl
    refine rb_word (p := lotT T b) (Nat.le_trans (List.length_filter_le _ _) (by rw [List.length_range]; omega)) fun k hk => ?_
    have := (mem_lotT.mp hk).1
    have : (2 : Nat) ^ 20 = 1048576 := by decide
    omega
  have al := alt_len T T.length
  have q1 : Rb 2 _ (.tup ((altR T T.length).map wordD)) := rb_tup (k := 1) (B := 600) (n := 6) q0 (by rw [List.length_map]; omega)
  exact repr_rb (rb_lst (k := 2) (n := 2) (fun d hd => by
    simp only [List.mem_cons, List.not_mem_nil, or_false] at hd
    rcases hd with rfl | rfl <;> exact q1) (by simp)) (by decide) (by decide) S

end Ag.k21

namespace Ag.k21
open PySem

/-! k21: all turns -/
theorem right_ok {S : Sto} {i : Nat} (h : Jg S i) : (F_right_l [.ref i] S).sat fun v S' => v = .bl true ∧ Lk S S' i := by
  unfold F_right_l
  refine scop_ok h.lt ?_
  simp only [f_run, List.map_cons, List.map_nil, List.length_cons, List.length_nil, Nat.zero_add, Nat.reduceAdd, Nat.reduceSub, List.replicate_succ, List.replicate_zero, List.cons_append, List.nil_append]
  unfold s_right_l
  have hi := h.lt
  have gtl : ∀ (l : List D) (S : Sto), gTup (.lst l) S = some (.tup l) := fun _ _ => rfl
  try simp only [p_seqL, stdQ, List.set_cons_zero, List.set_cons_succ, List.length_cons, List.length_nil, List.length_map, true_and, and_true, Bool.not_true, Bool.not_false, Bool.false_eq_true, if_false, if_true, decide_true, decide_false, not_true_eq_false, ne_eq, Nat.zero_le, rg1_4]
  refine for_T (li_rg0 _) (fun k en S' => ∃ x1 x2 x3 x4 x5 x6 x7 x8 x9, en = [some (.ref i), x1, x2, x3, x4, x5, x6, x7, x8, x9, none] ∧ Ex S S' i) ⟨none, none, none, none, none, none, none, none, none, rfl, .refl h⟩ ?_ ?_
  · rintro k d en S0 hd hdm ⟨x1, x2, x3, x4, x5, x6, x7, x8, x9, rfl, l0⟩
    try simp only [p_seqL, stdQ, List.set_cons_zero, List.set_cons_succ, List.length_cons, List.length_nil, List.length_map, true_and, and_true, Bool.not_true, Bool.not_false, Bool.false_eq_true, if_false, if_true, decide_true, decide_false, not_true_eq_false, ne_eq, Nat.zero_le]
    refine (pair_draw (mo := 6) l0.jg (by decide) (by decide)).mono ?_
    rintro v S1 ⟨⟨hs, ws0, rfl, H, hw0, w00, w40⟩, l1⟩
    have n1 : 1 ≤ hs.length := List.length_pos_iff.mpr H.ne
    have hn := H.six
    try simp only [p_seqL, stdQ, List.set_cons_zero, List.set_cons_succ, List.length_cons, List.length_nil, List.length_map, true_and, and_true, Bool.not_true, Bool.not_false, Bool.false_eq_true, if_false, if_true, decide_true, decide_false, not_true_eq_false, ne_eq, Nat.zero_le]
    rw [later_eq]
    try simp only [p_seqL, stdQ, List.set_cons_zero, List.set_cons_succ, List.length_cons, List.length_nil, List.length_map, true_and, and_true, Bool.not_true, Bool.not_false, Bool.false_eq_true, if_false, if_true, decide_true, decide_false, not_true_eq_false, ne_eq, Nat.zero_le]
    refine (many_talks_ok l1.jg w00 w40 n1 hn hw0).mono ?_
    rintro v S2 ⟨⟨ws, rfl, w0, w6, hw⟩, l2⟩
    clear hw0 w00 w40
    have wp := List.length_pos_iff.mpr w0
    have e2 : Ex S S2 i := (l0.trans l1.toEx).trans l2.toEx
    have mk := make_ok H hw w0 (by omega) l2.jg.cl
    have lw : ∀ S, gLen (.tup (ws.map wayD)) S = some (.int (ws.length : Int)) := fun S => by
      show some (D.int (List.length _)) = _
      rw [List.length_map]
    have r1 := fun S => rg1_len ws.length S (by omega)
    have ixw : ∀ a, a < ws.length → ∀ S, fIx (.tup (ws.map wayD)) (.int (a : Int)) S = some (wayD (ws.getD a [])) := fun a ha S => by
      rw [ix_k, List.getElem?_map, List.getElem?_eq_getElem ha]
      simp [List.getD, List.getElem?_eq_getElem ha]
    have wk : ∀ a, a < ws.length → WayOk hs.length (ws.getD a []) := fun a ha => by
      have e : ws.getD a [] = ws[a] := by simp [List.getD, List.getElem?_eq_getElem ha]
      rw [e]; exact hw _ (List.getElem_mem ha)
    have wm : ∀ a, a < ws.length → ws.getD a [] ∈ ws := fun a ha => by
      have e : ws.getD a [] = ws[a] := by simp [List.getD, List.getElem?_eq_getElem ha]
      rw [e]; exact List.getElem_mem ha
    obtain ⟨T, eT⟩ : ∃ T, T = ws.map evenR := ⟨_, rfl⟩
    have tl : T.length = ws.length := by rw [eT, List.length_map]
    have tg : ∀ a, T.getD a [] = evenR (ws.getD a []) := fun a => by rw [eT]; exact ev_get21 ws a
    have ni : S2.length ≠ i := by have := e2.jg.lt; omega
    have nrA : ∀ k, ∀ d ∈ (altR T k).map wordD, Nr d := fun k d hd => by
      obtain ⟨l, _, rfl⟩ := List.mem_map.mp hd
      exact nr_word l
    have exU : ∀ k, Ex S (S2 ++ [Ob.lst ((altR T k).map wordD)]) i := fun k => e2.add (bel_lst (nrA k))
    try simp only [p_seqL, stdQ, List.set_cons_zero, List.set_cons_succ, List.length_cons, List.length_nil, List.length_map, true_and, and_true, Bool.not_true, Bool.not_false, Bool.false_eq_true, if_false, if_true, decide_true, decide_false, not_true_eq_false, ne_eq, Nat.zero_le]
    rw [later_eq]
    try simp only [p_seqL, stdQ, List.set_cons_zero, List.set_cons_succ, List.length_cons, List.length_nil, List.length_map, true_and, and_true, Bool.not_true, Bool.not_false, Bool.false_eq_true, if_false, if_true, decide_true, decide_false, not_true_eq_false, ne_eq, Nat.zero_le, mk]
    try refine ⟨by decide, ?_⟩
    rw [later_eq]
    try simp only [p_seqL, stdQ, List.set_cons_zero, List.set_cons_succ, List.length_cons, List.length_nil, List.length_map, true_and, and_true, Bool.not_true, Bool.not_false, Bool.false_eq_true, if_false, if_true, decide_true, decide_false, not_true_eq_false, ne_eq, Nat.zero_le, lw, r1]
    refine for_T (li_rg0 _) (fun k en T' => ∃ x3 x9, en = [some (.ref i), some (.int (d : Int)), some (.tup (ws.map wayD)), x3, x4, x5, some (.tup (hs.map .str)), some (cncl hs ws), some (.ref S2.length), x9, none] ∧ T' = S2 ++ [.lst ((altR T k).map wordD)]) ⟨_, _, rfl, rfl⟩ ?_ ?_
    · rintro a a' en T' ha ham ⟨y3, y9, rfl, rfl⟩
      have ea : a' = a := by have := (List.getElem?_eq_some_iff.mp ha).2; simpa using this.symm
      have han : a < ws.length := by have := (List.getElem?_eq_some_iff.mp ha).1; simpa using this
      rw [ea]
      have al := alt_len T a
      try simp only [p_seqL, stdQ, List.set_cons_zero, List.set_cons_succ, List.length_cons, List.length_nil, List.length_map, true_and, and_true, Bool.not_true, Bool.not_false, Bool.false_eq_true, if_false, if_true, decide_true, decide_false, not_true_eq_false, ne_eq, Nat.zero_le]
      refine lc_refF (xs := altR T a) (e := wordD) (g := wordD) (p := fun l => decide (a ∈ l)) at_end (len_line (by omega)) (fun l hl => ?_) ?_
      · have fi := cod_natN.int (by decide) a l (S2 ++ [Ob.lst ((altR T a).map wordD)])
        have fi : fIn (.int (a : Int)) (wordD l) (S2 ++ [Ob.lst ((altR T a).map wordD)]) = some (.bl (decide (a ∈ l))) := fi
        try simp only [p_seqL, stdQ, List.set_cons_zero, List.set_cons_succ, List.length_cons, List.length_nil, List.length_map, true_and, and_true, Bool.not_true, Bool.not_false, Bool.false_eq_true, if_false, if_true, decide_true, decide_false, not_true_eq_false, ne_eq, Nat.zero_le, fi]
        exact fun _ => trivial
      · have eq := cod_word.lst.eq (by decide) ((altR T a).filter fun l => decide (a ∈ l)) [] (S2 ++ [Ob.lst ((altR T a).map wordD)])
        have eq : fEq (.lst (((altR T a).filter fun l => decide (a ∈ l)).map wordD)) (.lst []) (S2 ++ [Ob.lst ((altR T a).map wordD)]) = some (.bl (decide (((altR T a).filter fun l => decide (a ∈ l)) = []))) := eq
        have em : ((altR T a).filter fun l => decide (a ∈ l)) = [] ↔ T.getD a [] ∉ T.take a := by
          rw [← alt_some (T := T) (by omega) (by omega), List.filter_eq_nil_iff]
          constructor
          · rintro hf ⟨l, hl, h1⟩
            exact hf l hl (by simp [h1])
          · intro hf l hl z
            exact hf ⟨l, hl, of_decide_eq_true z⟩
        try simp only [p_seqL, stdQ, List.set_cons_zero, List.set_cons_succ, List.length_cons, List.length_nil, List.length_map, true_and, and_true, Bool.not_true, Bool.not_false, Bool.false_eq_true, if_false, if_true, decide_true, decide_false, not_true_eq_false, ne_eq, Nat.zero_le, eq]
        by_cases c : T.getD a [] ∈ T.take a
        · have c2 : ¬ ((altR T a).filter fun l => decide (a ∈ l)) = [] := fun z => em.mp z c
          try simp only [p_seqL, stdQ, List.set_cons_zero, List.set_cons_succ, List.length_cons, List.length_nil, List.length_map, true_and, and_true, Bool.not_true, Bool.not_false, Bool.false_eq_true, if_false, if_true, decide_true, decide_false, not_true_eq_false, ne_eq, Nat.zero_le, c2, decide_false]
          rw [alt_succ, if_pos c, List.append_nil]
          exact ⟨_, _, rfl, rfl⟩
        · have c2 : ((altR T a).filter fun l => decide (a ∈ l)) = [] := em.mpr c
          try simp only [p_seqL, stdQ, List.set_cons_zero, List.set_cons_succ, List.length_cons, List.length_nil, List.length_map, true_and, and_true, Bool.not_true, Bool.not_false, Bool.false_eq_true, if_false, if_true, decide_true, decide_false, not_true_eq_false, ne_eq, Nat.zero_le, c2, decide_true, ok_ref at_end, lw, r1]
          refine lc_filT (xs := List.range ws.length) (g := fun (j : Nat) => .int (j : Int)) (p := fun j => decide (T.getD j [] = T.getD a [])) (li_rg0 _) (by rw [List.length_range]; exact len_line (by omega)) (fun j hj => ?_) ?_
          · have hjn : j < ws.length := by simpa using hj
            have lk := like_ok (wk a han) (wk j hjn) hn
            try simp only [p_seqL, stdQ, List.set_cons_zero, List.set_cons_succ, List.length_cons, List.length_nil, List.length_map, true_and, and_true, Bool.not_true, Bool.not_false, Bool.false_eq_true, if_false, if_true, decide_true, decide_false, not_true_eq_false, ne_eq, Nat.zero_le, ixw a han, ixw j hjn, lk]
            refine ⟨?_, fun _ => trivial⟩
            rw [tg, tg]
            exact decide_eq_decide.mpr eq_comm
          · have ew : D.tup (((List.range ws.length).filter fun j => decide (T.getD j [] = T.getD a [])).map fun (j : Nat) => .int (j : Int)) = wordD (lotT T a) := by
              unfold lotT
              rw [tl]; rfl
            try simp only [p_seqL, stdQ, List.set_cons_zero, List.set_cons_succ, List.length_cons, List.length_nil, List.length_map, true_and, and_true, Bool.not_true, Bool.not_false, Bool.false_eq_true, if_false, if_true, decide_true, decide_false, not_true_eq_false, ne_eq, Nat.zero_le, gtl, ew]
            rw [app_end (by rw [List.length_map]; unfold lineN; omega), os_some]
            refine ⟨_, _, rfl, ?_⟩
            rw [alt_succ, if_neg c, List.map_append]
            rfl
    · rintro en T' ⟨y3, y9, rfl, rfl⟩
      rw [List.length_range, ← tl]
      have hU := exU T.length
      obtain ⟨U, eU⟩ : ∃ U, U = S2 ++ [Ob.lst ((altR T T.length).map wordD)] := ⟨_, rfl⟩
      have gU : U[S2.length]? = some (.lst ((altR T T.length).map wordD)) := by rw [eU]; exact at_end
      rw [← eU] at hU ⊢
      have cU := hU.jg.cl
      have alk := alike_ok hw hn (by omega) cU
      rw [← eT, ← tl] at alk
      have gt8 : gTup (.ref S2.length) U = some (.tup ((altR T T.length).map wordD)) := tup_ref gU
      obtain ⟨tx, htx⟩ := alt_repr (T := T) (by omega) U
      obtain ⟨b, b181, tells, ask⟩ := ask_ok H hw w6 cU
      have sz := pw_sz b181 hn
      have ii : fIsi isoC isoT [thD (pwR b hs.length), .ty "tuple"] U = some (.bl true) := rfl
      have ln4 : gLen (thD (pwR b hs.length)) U = some (.int (hs.length : Int)) := by
        show some (D.int (List.length _)) = _
        rw [List.length_map, sz.1]
      have lnh : gLen (.tup (hs.map .str)) U = some (.int (hs.length : Int)) := by
        show some (D.int (List.length _)) = _
        rw [List.length_map]
      have aft : F_after [cncl hs ws, thD (pwR b hs.length), .tup []] U = .ok (thD (pwR b hs.length)) U := after_ok (p := []) H hw sz (fun k hk => by cases hk) (by simp) (by simp) U
      have nth : fNe (thD (pwR b hs.length)) (thD (pwR b hs.length)) U = some (.bl false) := ne_same (pl_th _) U
      rw [later_eq]
      try simp only [p_seqL, stdQ, List.set_cons_zero, List.set_cons_succ, List.length_cons, List.length_nil, List.length_map, true_and, and_true, Bool.not_true, Bool.not_false, Bool.false_eq_true, if_false, if_true, decide_true, decide_false, not_true_eq_false, ne_eq, Nat.zero_le, alk, pick1, htx, gt8, rep_two, ne_text21]
      repeat (refine ⟨by decide, ?_⟩)
      rw [later_eq]
      try simp only [p_seqL, stdQ, List.set_cons_zero, List.set_cons_succ, List.length_cons, List.length_nil, List.length_map, true_and, and_true, Bool.not_true, Bool.not_false, Bool.false_eq_true, if_false, if_true, decide_true, decide_false, not_true_eq_false, ne_eq, Nat.zero_le, ask]
      rw [later_eq]
      try simp only [p_seqL, stdQ, List.set_cons_zero, List.set_cons_succ, List.length_cons, List.length_nil, List.length_map, true_and, and_true, Bool.not_true, Bool.not_false, Bool.false_eq_true, if_false, if_true, decide_true, decide_false, not_true_eq_false, ne_eq, Nat.zero_le, ii, ln4, lnh, ne_int, aft, nth]
      try refine ⟨by decide, ?_⟩
      rw [later_eq]
      try simp only [p_seqL, stdQ, List.set_cons_zero, List.set_cons_succ, List.length_cons, List.length_nil, List.length_map, true_and, and_true, Bool.not_true, Bool.not_false, Bool.false_eq_true, if_false, if_true, decide_true, decide_false, not_true_eq_false, ne_eq, Nat.zero_le, pick1, ask, nth]
      rw [later_eq]
      try simp only [p_seqL, stdQ, List.set_cons_zero, List.set_cons_succ, List.length_cons, List.length_nil, List.length_map, true_and, and_true, Bool.not_true, Bool.not_false, Bool.false_eq_true, if_false, if_true, decide_true, decide_false, not_true_eq_false, ne_eq, Nat.zero_le, lw, r1]
      have lat : ∀ a, a < ws.length → F_later_l [.tup (ws.map wayD), thD (pwR b hs.length), .tup [.int (a : Int)]] U = .ok (thD (dayR (ws.getD a []) (pwR b hs.length))) U := fun a ha => later_ok (p := [a]) hw hn sz (by simpa using ha) (by simp) U
      refine lc_mapT (xs := List.range ws.length) (g := fun (j : Nat) => thD (dayR (ws.getD j []) (pwR b hs.length))) (li_rg0 _) (by rw [List.length_range]; exact len_line (by omega)) (fun j hj => ?_) ?_
      · have hjn : j < ws.length := by simpa using hj
        try simp only [p_seqL, stdQ, List.set_cons_zero, List.set_cons_succ, List.length_cons, List.length_nil, List.length_map, true_and, and_true, Bool.not_true, Bool.not_false, Bool.false_eq_true, if_false, if_true, decide_true, decide_false, not_true_eq_false, ne_eq, Nat.zero_le, lat j hjn]
        try decide
      · rw [later_eq]
        have ixg : ∀ a, a < ws.length → fIx (.lst ((List.range ws.length).map fun (j : Nat) => thD (dayR (ws.getD j []) (pwR b hs.length)))) (.int (a : Int)) U = some (thD (dayR (ws.getD a []) (pwR b hs.length))) := fun a ha => by
          rw [ix_lst, List.getElem?_map, List.getElem?_range ha]; rfl
        have same : ∀ a j, a < ws.length → j < ws.length → (dayR (ws.getD a []) (pwR b hs.length) = dayR (ws.getD j []) (pwR b hs.length) ↔ T.getD a [] = T.getD j []) := fun a j ha hj => by
          rw [tg, tg]
          exact ⟨fun e => tells_inj tells (wm a ha) (wm j hj) e, fun e => day_alike e _⟩
        have al := alt_len T T.length
        try simp only [p_seqL, stdQ, List.set_cons_zero, List.set_cons_succ, List.length_cons, List.length_nil, List.length_map, true_and, and_true, Bool.not_true, Bool.not_false, Bool.false_eq_true, if_false, if_true, decide_true, decide_false, not_true_eq_false, ne_eq, Nat.zero_le, lw, r1]
        refine for_T (li_rg0 _) (fun k en T' => ∃ x3 x9, en = [some (.ref i), some (.int (d : Int)), some (.tup (ws.map wayD)), x3, some (thD (pwR b hs.length)), some (.lst ((List.range ws.length).map fun (j : Nat) => thD (dayR (ws.getD j []) (pwR b hs.length)))), some (.tup (hs.map .str)), some (cncl hs ws), some (.ref S2.length), x9, none] ∧ U = T') ⟨_, _, rfl, rfl⟩ ?_ ?_
        · rintro a a' en T' ha ham ⟨z3, z9, rfl, rfl⟩
          have ea : a' = a := by have := (List.getElem?_eq_some_iff.mp ha).2; simpa using this.symm
          have han : a < ws.length := by have := (List.getElem?_eq_some_iff.mp ha).1; simpa using this
          rw [ea]
          try simp only [p_seqL, stdQ, List.set_cons_zero, List.set_cons_succ, List.length_cons, List.length_nil, List.length_map, true_and, and_true, Bool.not_true, Bool.not_false, Bool.false_eq_true, if_false, if_true, decide_true, decide_false, not_true_eq_false, ne_eq, Nat.zero_le, lw, r1]
          refine for_T (li_rg0 _) (fun k en T' => ∃ x9, en = [some (.ref i), some (.int (d : Int)), some (.tup (ws.map wayD)), some (.int (a : Int)), some (thD (pwR b hs.length)), some (.lst ((List.range ws.length).map fun (j : Nat) => thD (dayR (ws.getD j []) (pwR b hs.length)))), some (.tup (hs.map .str)), some (cncl hs ws), some (.ref S2.length), x9, none] ∧ U = T') ⟨_, rfl, rfl⟩ ?_ ?_
          · rintro j j' en T' hj hjm ⟨w9, rfl, rfl⟩
            have ej : j' = j := by have := (List.getElem?_eq_some_iff.mp hj).2; simpa using this.symm
            have hjn : j < ws.length := by have := (List.getElem?_eq_some_iff.mp hj).1; simpa using this
            rw [ej]
            try simp only [p_seqL, stdQ, List.set_cons_zero, List.set_cons_succ, List.length_cons, List.length_nil, List.length_map, true_and, and_true, Bool.not_true, Bool.not_false, Bool.false_eq_true, if_false, if_true, decide_true, decide_false, not_true_eq_false, ne_eq, Nat.zero_le, ixg a han, ixg j hjn, eq_th21]
            refine lc_refF (xs := altR T T.length) (e := wordD) (g := wordD) (p := fun l => decide (a ∈ l) && decide (j ∈ l)) gU (len_line (by omega)) (fun l hl => ?_) ?_
            · have f1 : fIn (.int (a : Int)) (wordD l) U = some (.bl (decide (a ∈ l))) := cod_natN.int (by decide) a l U
              have f2 : fIn (.int (j : Int)) (wordD l) U = some (.bl (decide (j ∈ l))) := cod_natN.int (by decide) j l U
              try simp only [p_seqL, stdQ, List.set_cons_zero, List.set_cons_succ, List.length_cons, List.length_nil, List.length_map, true_and, and_true, Bool.not_true, Bool.not_false, Bool.false_eq_true, if_false, if_true, decide_true, decide_false, not_true_eq_false, ne_eq, Nat.zero_le, f1, f2]
              by_cases c : a ∈ l
              · simp only [c, decide_true, if_true, Bool.true_and, true_and]
                try exact fun _ => trivial
              · simp only [c, decide_false, Bool.false_eq_true, if_false, Bool.false_and, true_and]
                try exact fun z => (by cases z)
            · have ne : fNe (.lst (((altR T T.length).filter fun l => decide (a ∈ l) && decide (j ∈ l)).map wordD)) (.lst []) U = some (.bl (!decide (((altR T T.length).filter fun l => decide (a ∈ l) && decide (j ∈ l)) = []))) := cod_word.lst.ne (by decide) ((altR T T.length).filter fun l => decide (a ∈ l) && decide (j ∈ l)) [] U
              have em : (!decide (((altR T T.length).filter fun l => decide (a ∈ l) && decide (j ∈ l)) = [])) = decide (dayR (ws.getD a []) (pwR b hs.length) = dayR (ws.getD j []) (pwR b hs.length)) := by
                rw [Bool.eq_iff_iff, Bool.not_eq_true', decide_eq_false_iff_not, decide_eq_true_eq, same a j han hjn, ← alt_same (T := T) (by omega) (by omega), List.filter_eq_nil_iff]
                constructor
                · intro z
                  refine Classical.byContradiction fun y => z fun l hl q => y ⟨l, hl, ?_⟩
                  simpa using q
                · rintro ⟨l, hl, q⟩ z
                  exact z l hl (by simpa using q)
              have nb := cod_b21.ne (by decide) (decide (dayR (ws.getD a []) (pwR b hs.length) = dayR (ws.getD j []) (pwR b hs.length))) (decide (dayR (ws.getD a []) (pwR b hs.length) = dayR (ws.getD j []) (pwR b hs.length))) U
              try simp only [p_seqL, stdQ, List.set_cons_zero, List.set_cons_succ, List.length_cons, List.length_nil, List.length_map, true_and, and_true, Bool.not_true, Bool.not_false, Bool.false_eq_true, if_false, if_true, decide_true, decide_false, not_true_eq_false, ne_eq, Nat.zero_le, ne, em, nb, decide_true, Bool.not_true]
              exact ⟨_, rfl⟩
          · rintro en T' ⟨w9, rfl, rfl⟩
            have z1 : Sz hs.length 1 (dayR (ws.getD a []) (pwR b hs.length)) := walk_sz (p := [a]) hw hn sz (by simpa using han) (by simp)
            have fit : F_fitting [cncl hs ws, thD (pwR b hs.length), thD (dayR (ws.getD a []) (pwR b hs.length))] U = .ok (wordD (lotT T a)) U := by
              have f := fitting_ok H hw w6 sz z1.1 (fun t ht => lt_pow (z1.den t ht).1 (by decide)) (by decide) U
              have e : ((List.range ws.length).filter fun q => decide (dayR (ws.getD q []) (pwR b hs.length) = dayR (ws.getD a []) (pwR b hs.length))) = lotT T a := by
                unfold lotT
                rw [tl]
                refine List.filter_congr fun q hq => ?_
                exact decide_eq_decide.mpr (same q a (List.mem_range.mp hq) han)
              rw [e] at f
              exact f
            obtain ⟨r, hr⟩ := alt_first (T := T) (a := a) (by omega)
            rw [later_eq]
            try simp only [p_seqL, stdQ, List.set_cons_zero, List.set_cons_succ, List.length_cons, List.length_nil, List.length_map, true_and, and_true, Bool.not_true, Bool.not_false, Bool.false_eq_true, if_false, if_true, decide_true, decide_false, not_true_eq_false, ne_eq, Nat.zero_le, ixg a han, fit]
            refine lc_refF (xs := altR T T.length) (e := wordD) (g := wordD) (p := fun l => decide (a ∈ l)) gU (len_line (by omega)) (fun l hl => ?_) ?_
            · have f1 : fIn (.int (a : Int)) (wordD l) U = some (.bl (decide (a ∈ l))) := cod_natN.int (by decide) a l U
              try simp only [p_seqL, stdQ, List.set_cons_zero, List.set_cons_succ, List.length_cons, List.length_nil, List.length_map, true_and, and_true, Bool.not_true, Bool.not_false, Bool.false_eq_true, if_false, if_true, decide_true, decide_false, not_true_eq_false, ne_eq, Nat.zero_le, f1]
              exact fun _ => trivial
            · rw [hr]
              have i0 : fIx (.lst ((lotT T a :: r).map wordD)) (.int 0) U = some (wordD (lotT T a)) := ix_lst ((lotT T a :: r).map wordD) 0 U
              have nw := ne_same ((dp_word (lotT T a)).pl (by decide)) U
              try simp only [p_seqL, stdQ, List.set_cons_zero, List.set_cons_succ, List.length_cons, List.length_nil, List.length_map, true_and, and_true, Bool.not_true, Bool.not_false, Bool.false_eq_true, if_false, if_true, decide_true, decide_false, not_true_eq_false, ne_eq, Nat.zero_le, i0, nw]
              exact ⟨_, _, rfl⟩
        · rintro en T' ⟨z3, z9, rfl, rfl⟩
          exact ⟨_, _, _, _, _, _, _, _, _, rfl, hU⟩
  · rintro en S' ⟨x1, x2, x3, x4, x5, x6, x7, x8, x9, rfl, l0⟩
    rw [later_eq]
    try simp only [p_seqL, stdQ, List.set_cons_zero, List.set_cons_succ, List.length_cons, List.length_nil, List.length_map, true_and, and_true, Bool.not_true, Bool.not_false, Bool.false_eq_true, if_false, if_true, decide_true, decide_false, not_true_eq_false, ne_eq, Nat.zero_le]
    exact ⟨nr_bl _, l0⟩

end Ag.k21

namespace Ag.k21
open PySem

theorem quiet_ok {S : Sto} {i : Nat} (h : Jg S i) : (F_quiet_l [.ref i] S).sat fun v S' => v = .bl true ∧ Lk S S' i := by
  unfold F_quiet_l
  simp only [f_run, List.map_cons, List.map_nil, List.length_cons, List.length_nil, Nat.zero_add, Nat.reduceAdd, Nat.reduceSub, List.replicate_succ, List.replicate_zero, List.cons_append, List.nil_append]
  unfold s_quiet_l
  simp only [p_seq, stdQ, List.set_cons_zero, List.set_cons_succ, List.length_cons, List.length_nil, List.length_map, true_and, and_true, Bool.not_true, Bool.not_false, Bool.false_eq_true, if_false, if_true, decide_true, decide_false, not_true_eq_false, ne_eq, Nat.zero_le]
  refine (right_ok h).mono ?_
  rintro v S1 ⟨rfl, l⟩
  simp only [p_seq, stdQ, List.set_cons_zero, List.set_cons_succ, List.length_cons, List.length_nil, List.length_map, true_and, and_true, Bool.not_true, Bool.not_false, Bool.false_eq_true, if_false, if_true, decide_true, decide_false, not_true_eq_false, ne_eq, Nat.zero_le]
  exact l
theorem law_good (ns : List Int) (hl : ns.length ≤ 63) : ∃ S, F_law [.scr (ns.map .int)] [] = .ok (.bl true) S := by
  suffices h : (F_law [.scr (ns.map .int)] []).sat fun v _ => v = .bl true by
    obtain ⟨v, S, e, rfl⟩ := h.eq
    exact ⟨S, e⟩
  unfold F_law
  rw [f_run]
  show (s_law [some (.scr (ns.map .int)), none] []).sat _ _
  unfold s_law
  obtain ⟨n, hn, h5⟩ : ∃ n : Nat, (if (if (5 : Int) < (ns.length : Int) then 5 else (ns.length : Int)) > 2 then (if (5 : Int) < (ns.length : Int) then 5 else (ns.length : Int)) else 2) = (n : Int) ∧ n ≤ 63 := by
    refine ⟨(if (if (5 : Int) < (ns.length : Int) then 5 else (ns.length : Int)) > 2 then (if (5 : Int) < (ns.length : Int) then 5 else (ns.length : Int)) else 2).toNat, ?_, ?_⟩ <;> split <;> (try split) <;> omega
  have r1 := rg1_len n ([] : Sto) (by omega)
  simp only [p_ret, q_cb, q_lc, q_itA, q_cons, q_nil, q_c, q_var, sl_0, sl_s, os_some, f1, len_scr, List.length_map, fMin2, fMax2, hn, r1]
  refine lc_inv (li_rg _ _) (fun k acc S' => Cl S' ∧ acc = List.replicate k (.bl true)) ?_ ?_ ⟨fun o ho => by simp at ho, rfl⟩
  · rintro k d acc S' hd ⟨hc, rfl⟩
    have hk : k < n := by
      have := (List.getElem?_eq_some_iff.mp hd).1
      simpa using this
    have ed : d = .int (k : Int) := by
      rw [List.getElem?_map, List.getElem?_range hk] at hd
      simpa using hd.symm
    subst ed
    simp only [wipeE, List.set_cons_zero, List.set_cons_succ, g_nm, mYes, r_ok, if_true, q_cons, q_nil, q_call, q_var, sl_0, sl_s, os_some, List.length_cons, List.length_nil, true_and]
    refine (jug_ok hc hl k).mono ?_
    rintro v S1 ⟨rfl, j1⟩
    refine (quiet_ok j1).mono ?_
    rintro v S2 ⟨rfl, l2⟩
    refine ⟨by rw [List.length_replicate]; unfold lineN; omega, l2.jg.cl, ?_⟩
    rw [List.replicate_succ']
  · rintro acc S' ⟨hc, rfl⟩
    rw [range_len]
    have := all_true n S'
    simp only [f1] at this
    simp only [this, os_some]


end Ag.k21

namespace Ag.k21
open PySem PySem.Spec PyProof.Rows L2
structure Kc (K : PySem.W.Frag) (mg : Str → Option Value) : Prop extends Kn fa fn ex K mg where
  iso : Iso K isoC isoT
  ex0 : ∃ p, PropOf K (He.ga K "Council") "ways" p (prG K "Council" "ways")
  ex1 : He.tupB K "NOUGHT" [.int 0, .int 1] = true
  ex2 : PySem.W.findIn K (.ref (He.ga K "Council")) "__len__" = some (some (.ref (He.ma K (He.ga K "Council") "__len__"))) ∧ PySem.W.isFn K (.ref (He.ma K (He.ga K "Council") "__len__")) = true
  ex3 : ∃ p, PropOf K (He.ga K "Council") "minds" p (prG K "Council" "minds")
theorem kc_of {K : PySem.W.Frag} {mg : Str → Option Value} (c : Kn fa fn ex K mg) : Kc K mg := by
  have h := c.t.ex
  simp only [ex, Bool.and_eq_true] at h
  exact { c with iso := isoB_ok h.1.1.1.1, ex0 := propB_ok h.1.1.1.2, ex1 := h.1.1.2, ex2 := ⟨He.eqO_ok (He.ba h.1.2).1, (He.ba h.1.2).2⟩, ex3 := propB_ok h.2 }
section
variable {P : Program} {w : World} {K : PySem.W.Frag} {mg : Str → Option Value} {base : Heap}
theorem sc_Council_ways : FnScope N_Council_ways ["self"] (defScope st_Council_ways) := ⟨rfl, rfl, rfl, by decide +kernel, rfl, by decide +kernel, by decide +kernel⟩
theorem us_Council_ways (C : Kc K mg) : ∃ fd, FnG P w K mg base 1 (df_Council_ways.loc K) fd ["self"] (spOf K 1 F_Council_ways) ∧ PySem.W.keepIn K (.ref (df_Council_ways.loc K)) = true ∧ Binds K fd ["self"] [] ∧ FnAt K df_Council_ways fd := by
  obtain ⟨fd, F⟩ := C.df 0 (d := df_Council_ways) rfl
  refine ⟨fd, fn_ok F sc_Council_ways fun cdv A outer s0 H E B => ?_, F.kp, F.bindsN fun _ _ _ _ _ _ us hl => match us, hl with | [_], _ => rfl, F⟩
  exact (ss_one (s_ret (e_fld (one_ ⟨He.cls_ok (C.ok 6 rfl), He.noat_ok (C.ok 7 rfl)⟩) (vr 0))))
theorem sc_reduced : FnScope N_reduced ["top", "bottom"] (defScope st_reduced) := ⟨rfl, rfl, rfl, by decide +kernel, rfl, by decide +kernel, by decide +kernel⟩
theorem us_reduced (C : Kc K mg) : ∃ fd, FnG P w K mg base 1 (df_reduced.loc K) fd ["top", "bottom"] (spOf K 2 F_reduced) ∧ PySem.W.keepIn K (.ref (df_reduced.loc K)) = true ∧ Binds K fd ["top", "bottom"] [] ∧ FnAt K df_reduced fd := by
  obtain ⟨fd, F⟩ := C.df 1 (d := df_reduced) rfl
  refine ⟨fd, fn_ok F sc_reduced fun cdv A outer s0 H E B => ?_, F.kp, F.bindsN fun _ _ _ _ _ _ us hl => match us, hl with | [_, _], _ => rfl, F⟩
  exact (ss_cons (s_par (i := 2) (j := 3) B.calm sc_reduced.nd rfl rfl (by decide) rfl rfl (a_cons (e_cb b_abs rfl (C.free 9 rfl) bt_abs (a_cons (vr 0) a_nil)) (a_cons (vr 1) a_nil)) rfl)
  (ss_cons (s_while B.hp (t_cmp (o_ne B.u64) (vr 3) k_int (nomark _)) (ss_one (s_par (i := 2) (j := 3) B.calm sc_reduced.nd rfl rfl (by decide) rfl rfl (a_cons (vr 3) (a_cons (e_op o_mod (vr 2) (vr 3)) a_nil)) rfl)))
  (ss_one (s_ret (e_tup (a_cons (e_op o_div (vr 0) (vr 2)) (a_cons (e_op o_div (vr 1) (vr 2)) a_nil)))))))
theorem sc_plus : FnScope N_plus ["one", "other"] (defScope st_plus) := ⟨rfl, rfl, rfl, by decide +kernel, rfl, by decide +kernel, by decide +kernel⟩
theorem us_plus (C : Kc K mg) : ∃ fd, FnG P w K mg base 2 (df_plus.loc K) fd ["one", "other"] (spOf K 2 F_plus) ∧ PySem.W.keepIn K (.ref (df_plus.loc K)) = true ∧ Binds K fd ["one", "other"] [] ∧ FnAt K df_plus fd := by
  obtain ⟨fd0, G0, k0, b0, A0⟩ := us_reduced (P := P) (w := w) (base := base) C
  obtain ⟨fd, F⟩ := C.df 2 (d := df_plus) rfl
  refine ⟨fd, fn_ok F sc_plus fun cdv A outer s0 H E B => ?_, F.kp, F.bindsN fun _ _ _ _ _ _ us hl => match us, hl with | [_, _], _ => rfl, F⟩
  exact (ss_one (s_ret (e_call B G0 (by decide) rfl (C.glo 10 rfl) k0 b0 (a_cons (e_op o_add (e_op o_mul (e_ix x_ix (vr 0) k_int (fun _ _ => rfl)) (e_ix x_ix (vr 1) k_int (fun _ _ => rfl))) (e_op o_mul (e_ix x_ix (vr 1) k_int (fun _ _ => rfl)) (e_ix x_ix (vr 0) k_int (fun _ _ => rfl)))) (a_cons (e_op o_mul (e_ix x_ix (vr 0) k_int (fun _ _ => rfl)) (e_ix x_ix (vr 1) k_int (fun _ _ => rfl))) a_nil)))))
theorem sc_mean_of : FnScope N_mean_of ["thoughts", "weights"] (defScope st_mean_of) := ⟨rfl, rfl, rfl, by decide +kernel, rfl, by decide +kernel, by decide +kernel⟩
theorem us_mean_of (C : Kc K mg) : ∃ fd, FnG P w K mg base 3 (df_mean_of.loc K) fd ["thoughts", "weights"] (spOf K 2 F_mean_of) ∧ PySem.W.keepIn K (.ref (df_mean_of.loc K)) = true ∧ Binds K fd ["thoughts", "weights"] [] ∧ FnAt K df_mean_of fd := by
  obtain ⟨fd0, G0, k0, b0, A0⟩ := us_reduced (P := P) (w := w) (base := base) C
  obtain ⟨fd1, G1, k1, b1, A1⟩ := us_plus (P := P) (w := w) (base := base) C
  obtain ⟨fd, F⟩ := C.df 3 (d := df_mean_of) rfl
  refine ⟨fd, fn_ok F sc_mean_of fun cdv A outer s0 H E B => ?_, F.kp, F.bindsN fun _ _ _ _ _ _ us hl => match us, hl with | [_, _], _ => rfl, F⟩
  exact (ss_cons (s_set (i := 2) sc_mean_of.nd rfl (by first | exact Or.inl rfl | exact Or.inr rfl) (g_tup (C.glo 14 rfl) C.ex1))
  (ss_cons (s_for B.hp B.calm (j_zip rfl (C.free 12 rfl) (a_cons (vr 0) (a_cons (vr 1) a_nil))) (g_unp B.calm (gs_cons (g_name (i := 3) sc_mean_of.nd rfl (by first | exact Or.inl rfl | exact Or.inr rfl)) (gs_cons (g_name (i := 4) sc_mean_of.nd rfl (by first | exact Or.inl rfl | exact Or.inr rfl)) gs_nil))) (ss_one (s_set (i := 2) sc_mean_of.nd rfl (by first | exact Or.inl rfl | exact Or.inr rfl) (e_call B G1 (by decide) rfl (C.glo 13 rfl) k1 b1 (a_cons (vr 2) (a_cons (e_call B G0 (by decide) rfl (C.glo 10 rfl) k0 b0 (a_cons (e_op o_mul (e_ix x_ix (vr 3) k_int (fun _ _ => rfl)) (vr 4)) (a_cons (e_ix x_ix (vr 3) k_int (fun _ _ => rfl)) a_nil))) a_nil))))))
  (ss_one (s_ret (e_call B G0 (by decide) rfl (C.glo 10 rfl) k0 b0 (a_cons (e_ix x_ix (vr 2) k_int (fun _ _ => rfl)) (a_cons (e_op o_mul (e_ix x_ix (vr 2) k_int (fun _ _ => rfl)) (e_cb (b_sum B.calm) rfl (C.free 11 rfl) bt_sum (a_cons (vr 1) a_nil))) a_nil)))))))
theorem sc_day_of : FnScope N_day_of ["way", "thoughts"] (defScope st_day_of) := ⟨rfl, rfl, rfl, by decide +kernel, rfl, by decide +kernel, by decide +kernel⟩
theorem us_day_of (C : Kc K mg) : ∃ fd, FnG P w K mg base 4 (df_day_of.loc K) fd ["way", "thoughts"] (spOf K 2 F_day_of) ∧ PySem.W.keepIn K (.ref (df_day_of.loc K)) = true ∧ Binds K fd ["way", "thoughts"] [] ∧ FnAt K df_day_of fd := by
  obtain ⟨fd0, G0, k0, b0, A0⟩ := us_mean_of (P := P) (w := w) (base := base) C
  obtain ⟨fd, F⟩ := C.df 4 (d := df_day_of) rfl
  refine ⟨fd, fn_ok F sc_day_of fun cdv A outer s0 H E B => ?_, F.kp, F.bindsN fun _ _ _ _ _ _ us hl => match us, hl with | [_, _], _ => rfl, F⟩
  exact (ss_one (s_ret (e_cty b_tup rfl (C.free 5 rfl) bt_tuple (a_cons (e_lc B.calm sc_day_of.nd (i_val (vr 0)) (own := [("row", 2)]) (blk_ok (by kernel_rfl)) (fun _ _ _ _ _ => (gw_name (i := 2) (by decide) sc_day_of.nd rfl (by first | exact Or.inl rfl | exact Or.inr rfl))) (fun _ _ _ _ _ => ts_nil) (fun _ _ _ _ _ => (e_call (bd_blk B) G0 (by decide) rfl (C.glo 15 rfl) k0 b0 (a_cons (vr 1) (a_cons (vr 2) a_nil))))) a_nil))))
theorem sc_is_integer : FnScope N_is_integer ["value"] (defScope st_is_integer) := ⟨rfl, rfl, rfl, by decide +kernel, rfl, by decide +kernel, by decide +kernel⟩
theorem us_is_integer (C : Kc K mg) : ∃ fd, FnG P w K mg base 1 (df_is_integer.loc K) fd ["value"] (spOf K 1 F_is_integer) ∧ PySem.W.keepIn K (.ref (df_is_integer.loc K)) = true ∧ Binds K fd ["value"] [] ∧ FnAt K df_is_integer fd := by
  obtain ⟨fd, F⟩ := C.df 5 (d := df_is_integer) rfl
  refine ⟨fd, fn_ok F sc_is_integer fun cdv A outer s0 H E B => ?_, F.kp, F.bindsN fun _ _ _ _ _ _ us hl => match us, hl with | [_], _ => rfl, F⟩
  exact (ss_one (s_ret (e_and (e_cb (b_isi C.iso) rfl (C.free 17 rfl) bt_isinstance (a_cons (vr 0) (a_cons (g_ty (C.free 18 rfl) bt_int) a_nil))) (e_one (e_not (e_cb (b_isi C.iso) rfl (C.free 17 rfl) bt_isinstance (a_cons (vr 0) (a_cons (g_ty (C.free 19 rfl) bt_bool) a_nil))))))))
theorem sc_is_fraction : FnScope N_is_fraction ["value"] (defScope st_is_fraction) := ⟨rfl, rfl, rfl, by decide +kernel, rfl, by decide +kernel, by decide +kernel⟩
theorem us_is_fraction (C : Kc K mg) : ∃ fd, FnG P w K mg base 2 (df_is_fraction.loc K) fd ["value"] (spOf K 1 F_is_fraction) ∧ PySem.W.keepIn K (.ref (df_is_fraction.loc K)) = true ∧ Binds K fd ["value"] [] ∧ FnAt K df_is_fraction fd := by
  obtain ⟨fd0, G0, k0, b0, A0⟩ := us_reduced (P := P) (w := w) (base := base) C
  obtain ⟨fd1, G1, k1, b1, A1⟩ := us_is_integer (P := P) (w := w) (base := base) C
  obtain ⟨fd, F⟩ := C.df 6 (d := df_is_fraction) rfl
  refine ⟨fd, fn_ok F sc_is_fraction fun cdv A outer s0 H E B => ?_, F.kp, F.bindsN fun _ _ _ _ _ _ us hl => match us, hl with | [_], _ => rfl, F⟩
  exact (ss_cons (s_if (PW.pt (w_or (t_not (t_val (e_cb (b_isi C.iso) rfl (C.free 17 rfl) bt_isinstance (a_cons (vr 0) (a_cons (g_ty (C.free 5 rfl) bt_tuple) a_nil))))) (w_or (t_cmp (o_ne B.u64) (e_cb b_len rfl (C.free 3 rfl) bt_len (a_cons (vr 0) a_nil)) k_int (nomark _)) (w_or (t_not (t_val (e_call B G1 (by decide) rfl (C.glo 20 rfl) k1 b1 (a_cons (e_ix x_ix (vr 0) k_int (fun _ _ => rfl)) a_nil)))) (w_or1 (t_not (t_val (e_call B G1 (by decide) rfl (C.glo 20 rfl) k1 b1 (a_cons (e_ix x_ix (vr 0) k_int (fun _ _ => rfl)) a_nil))))))))) (ss_one (s_ret k_bl)) ss_nil)
  (ss_one (s_ret (e_and (e_cmp o_ge (e_ix x_ix (vr 0) k_int (fun _ _ => rfl)) k_int (nomark _)) (e_one (e_cmp (o_eq B.u64) (e_call B G0 (by decide) rfl (C.glo 10 rfl) k0 b0 (a_cons (e_ix x_ix (vr 0) k_int (fun _ _ => rfl)) (a_cons (e_ix x_ix (vr 0) k_int (fun _ _ => rfl)) a_nil))) (vr 0) (nomark _)))))))
theorem sc_check_some : FnScope N_check_some ["thoughts"] (defScope st_check_some) := ⟨rfl, rfl, rfl, by decide +kernel, rfl, by decide +kernel, by decide +kernel⟩
theorem us_check_some (C : Kc K mg) : ∃ fd, FnG P w K mg base 3 (df_check_some.loc K) fd ["thoughts"] (spOf K 1 F_check_some) ∧ PySem.W.keepIn K (.ref (df_check_some.loc K)) = true ∧ Binds K fd ["thoughts"] [] ∧ FnAt K df_check_some fd := by
  obtain ⟨fd0, G0, k0, b0, A0⟩ := us_is_fraction (P := P) (w := w) (base := base) C
  obtain ⟨fd, F⟩ := C.df 7 (d := df_check_some) rfl
  refine ⟨fd, fn_ok F sc_check_some fun cdv A outer s0 H E B => ?_, F.kp, F.bindsN fun _ _ _ _ _ _ us hl => match us, hl with | [_], _ => rfl, F⟩
  exact (ss_cons (s_if (PW.pt (w_or (t_not (t_val (e_cb (b_isi C.iso) rfl (C.free 17 rfl) bt_isinstance (a_cons (vr 0) (a_cons (g_ty (C.free 5 rfl) bt_tuple) a_nil))))) (w_or1 (t_cmp (o_eq B.u64) (e_cb b_len rfl (C.free 3 rfl) bt_len (a_cons (vr 0) a_nil)) k_int (nomark _))))) (ss_one s_never) ss_nil)
  (ss_one (s_for B.hp B.calm (j_enum rfl (C.free 8 rfl) (a_cons (vr 0) a_nil)) (g_unp B.calm (gs_cons (g_name (i := 1) sc_check_some.nd rfl (by first | exact Or.inl rfl | exact Or.inr rfl)) (gs_cons (g_name (i := 2) sc_check_some.nd rfl (by first | exact Or.inl rfl | exact Or.inr rfl)) gs_nil))) (ss_one (s_if (t_not (t_val (e_call B G0 (by decide) rfl (C.glo 21 rfl) k0 b0 (a_cons (vr 2) a_nil)))) (ss_one s_never) ss_nil)))))
theorem sc_Councild_lend : FnScope N_Councild_lend ["self"] (defScope st_Councild_lend) := ⟨rfl, rfl, rfl, by decide +kernel, rfl, by decide +kernel, by decide +kernel⟩
theorem us_Councild_lend (C : Kc K mg) : ∃ fd, FnG P w K mg base 1 (df_Councild_lend.loc K) fd ["self"] (spOf K 1 F_Councild_lend) ∧ PySem.W.keepIn K (.ref (df_Councild_lend.loc K)) = true ∧ Binds K fd ["self"] [] ∧ FnAt K df_Councild_lend fd := by
  obtain ⟨fd, F⟩ := C.df 8 (d := df_Councild_lend) rfl
  refine ⟨fd, fn_ok F sc_Councild_lend fun cdv A outer s0 H E B => ?_, F.kp, F.bindsN fun _ _ _ _ _ _ us hl => match us, hl with | [_], _ => rfl, F⟩
  exact (ss_one (s_ret (e_cb b_len rfl (C.free 3 rfl) bt_len (a_cons (e_fld (one_ ⟨He.cls_ok (C.ok 6 rfl), He.noat_ok (C.ok 23 rfl)⟩) (vr 0)) a_nil))))
theorem sc_check_thoughts : FnScope N_check_thoughts ["council", "thoughts"] (defScope st_check_thoughts) := ⟨rfl, rfl, rfl, by decide +kernel, rfl, by decide +kernel, by decide +kernel⟩
theorem us_check_thoughts (C : Kc K mg) : ∃ fd, FnG P w K mg base 4 (df_check_thoughts.loc K) fd ["council", "thoughts"] (spOf K 2 F_check_thoughts) ∧ PySem.W.keepIn K (.ref (df_check_thoughts.loc K)) = true ∧ Binds K fd ["council", "thoughts"] [] ∧ FnAt K df_check_thoughts fd := by
  obtain ⟨fd0, G0, k0, b0, A0⟩ := us_check_some (P := P) (w := w) (base := base) C
  obtain ⟨fd1, G1, k1, b1, A1⟩ := us_Councild_lend (P := P) (w := w) (base := base) C
  obtain ⟨fd, F⟩ := C.df 9 (d := df_check_thoughts) rfl
  refine ⟨fd, fn_ok F sc_check_thoughts fun cdv A outer s0 H E B => ?_, F.kp, F.bindsN fun _ _ _ _ _ _ us hl => match us, hl with | [_, _], _ => rfl, F⟩
  exact (ss_cons (s_if (PW.pt (w_or (t_not (t_val (e_cb (b_isi C.iso) rfl (C.free 17 rfl) bt_isinstance (a_cons (vr 1) (a_cons (g_ty (C.free 5 rfl) bt_tuple) a_nil))))) (w_or1 (t_cmp (o_ne B.u64) (e_cb b_len rfl (C.free 3 rfl) bt_len (a_cons (vr 1) a_nil)) (e_cr (b_lenO B C.ex2.1 C.ex2.2 G1 (by decide) b1) rfl (C.free 3 rfl) bt_len (a_cons (vr 0) a_nil)) (nomark _))))) (ss_one s_never) ss_nil)
  (ss_one (s_expr (e_call B G0 (by decide) rfl (C.glo 22 rfl) k0 b0 (a_cons (vr 1) a_nil)))))
theorem sc_check_council : FnScope N_check_council ["value"] (defScope st_check_council) := ⟨rfl, rfl, rfl, by decide +kernel, rfl, by decide +kernel, by decide +kernel⟩
theorem us_check_council (C : Kc K mg) : ∃ fd, FnG P w K mg base 1 (df_check_council.loc K) fd ["value"] (spOf K 1 F_check_council) ∧ PySem.W.keepIn K (.ref (df_check_council.loc K)) = true ∧ Binds K fd ["value"] [] ∧ FnAt K df_check_council fd := by
  obtain ⟨fd, F⟩ := C.df 10 (d := df_check_council) rfl
  refine ⟨fd, fn_ok F sc_check_council fun cdv A outer s0 H E B => ?_, F.kp, F.bindsN fun _ _ _ _ _ _ us hl => match us, hl with | [_], _ => rfl, F⟩
  exact (ss_one (s_if (t_not (t_val (e_cb (b_isi C.iso) rfl (C.free 17 rfl) bt_isinstance (a_cons (vr 0) (a_cons (g_cls (C.glo 25 rfl)) a_nil))))) (ss_one s_never) ss_nil))
theorem sc_check_both : FnScope N_check_both ["council", "thoughts", "later"] (defScope st_check_both) := ⟨rfl, rfl, rfl, by decide +kernel, rfl, by decide +kernel, by decide +kernel⟩
theorem us_check_both (C : Kc K mg) : ∃ fd, FnG P w K mg base 5 (df_check_both.loc K) fd ["council", "thoughts", "later"] (spOf K 3 F_check_both) ∧ PySem.W.keepIn K (.ref (df_check_both.loc K)) = true ∧ Binds K fd ["council", "thoughts", "later"] [] ∧ FnAt K df_check_both fd := by
  obtain ⟨fd0, G0, k0, b0, A0⟩ := us_check_thoughts (P := P) (w := w) (base := base) C
  obtain ⟨fd1, G1, k1, b1, A1⟩ := us_check_council (P := P) (w := w) (base := base) C
  obtain ⟨fd, F⟩ := C.df 11 (d := df_check_both) rfl
  refine ⟨fd, fn_ok F sc_check_both fun cdv A outer s0 H E B => ?_, F.kp, F.bindsN fun _ _ _ _ _ _ us hl => match us, hl with | [_, _, _], _ => rfl, F⟩
  exact (ss_cons (s_expr (e_call B G1 (by decide) rfl (C.glo 26 rfl) k1 b1 (a_cons (vr 0) a_nil)))
  (ss_cons (s_expr (e_call B G0 (by decide) rfl (C.glo 24 rfl) k0 b0 (a_cons (vr 0) (a_cons (vr 1) a_nil))))
  (ss_one (s_expr (e_call B G0 (by decide) rfl (C.glo 24 rfl) k0 b0 (a_cons (vr 0) (a_cons (vr 2) a_nil)))))))
theorem sc_fitting : FnScope N_fitting ["council", "thoughts", "later"] (defScope st_fitting) := ⟨rfl, rfl, rfl, by decide +kernel, rfl, by decide +kernel, by decide +kernel⟩
theorem us_fitting (C : Kc K mg) : ∃ fd, FnG P w K mg base 6 (df_fitting.loc K) fd ["council", "thoughts", "later"] (spOf K 3 F_fitting) ∧ PySem.W.keepIn K (.ref (df_fitting.loc K)) = true ∧ Binds K fd ["council", "thoughts", "later"] [] ∧ FnAt K df_fitting fd := by
  obtain ⟨fd0, G0, k0, b0, A0⟩ := us_Council_ways (P := P) (w := w) (base := base) C
  obtain ⟨fd1, G1, k1, b1, A1⟩ := us_day_of (P := P) (w := w) (base := base) C
  obtain ⟨fd2, G2, k2, b2, A2⟩ := us_check_both (P := P) (w := w) (base := base) C
  obtain ⟨fd, F⟩ := C.df 12 (d := df_fitting) rfl
  refine ⟨fd, fn_ok F sc_fitting fun cdv A outer s0 H E B => ?_, F.kp, F.bindsN fun _ _ _ _ _ _ us hl => match us, hl with | [_, _, _], _ => rfl, F⟩
  exact (ss_cons (s_expr (e_call B G2 (by decide) rfl (C.glo 27 rfl) k2 b2 (a_cons (vr 0) (a_cons (vr 1) (a_cons (vr 2) a_nil)))))
  (ss_one (s_ret (e_cty b_tup rfl (C.free 5 rfl) bt_tuple (a_cons (e_lc B.calm sc_fitting.nd (j_enum rfl (C.free 8 rfl) (a_cons (e_prop B (He.cls_ok (C.ok 6 rfl)) C.ex0.choose_spec G0 (by decide) b0 (vr 0)) a_nil)) (own := [("at", 3), ("way", 4)]) (blk_ok (by kernel_rfl)) (fun _ _ _ _ _ => (gw_unp (bd_blk B).calm (gws_cons (gw_name (i := 3) (by decide) sc_fitting.nd rfl (by first | exact Or.inl rfl | exact Or.inr rfl)) (gws_cons (gw_name (i := 4) (by decide) sc_fitting.nd rfl (by first | exact Or.inl rfl | exact Or.inr rfl)) gws_nil)))) (fun _ _ _ _ _ => (ts_one (t_cmp (o_eq (bd_blk B).u64) (e_call (bd_blk B) G1 (by decide) rfl (C.glo 16 rfl) k1 b1 (a_cons (vr 4) (a_cons (vr 1) a_nil))) (vr 2) (nomark _)))) (fun _ _ _ _ _ => (vr 3))) a_nil)))))
theorem sc_low_l : FnScope N_low_l ["_law_top", "_law_bottom"] (defScope st_low_l) := ⟨rfl, rfl, rfl, by decide +kernel, rfl, by decide +kernel, by decide +kernel⟩
theorem us_low_l (C : Kc K mg) : ∃ fd, FnG P w K mg base 1 (df_low_l.loc K) fd ["_law_top", "_law_bottom"] (spOf K 2 F_low_l) ∧ PySem.W.keepIn K (.ref (df_low_l.loc K)) = true ∧ Binds K fd ["_law_top", "_law_bottom"] [] ∧ FnAt K df_low_l fd := by
  obtain ⟨fd, F⟩ := C.df 13 (d := df_low_l) rfl
  refine ⟨fd, fn_ok F sc_low_l fun cdv A outer s0 H E B => ?_, F.kp, F.bindsN fun _ _ _ _ _ _ us hl => match us, hl with | [_, _], _ => rfl, F⟩
  exact (ss_cons (s_par (i := 2) (j := 3) B.calm sc_low_l.nd rfl rfl (by decide) rfl rfl (a_cons (vr 1) (a_cons (e_cb b_abs rfl (C.free 9 rfl) bt_abs (a_cons (vr 0) a_nil)) a_nil)) rfl)
  (ss_cons (s_while B.hp (t_cmp o_gt (vr 3) k_int (nomark _)) (ss_one (s_par (i := 2) (j := 3) B.calm sc_low_l.nd rfl rfl (by decide) rfl rfl (a_cons (vr 3) (a_cons (e_op o_mod (e_cty b_int rfl (C.free 18 rfl) bt_int (a_cons (vr 2) a_nil)) (vr 3)) a_nil)) rfl)))
  (ss_one (s_ret (e_tup (a_cons (e_op o_div (vr 0) (vr 2)) (a_cons (e_op o_div (vr 1) (vr 2)) a_nil)))))))
theorem sc_mixed_l : FnScope N_mixed_l ["_law_parts_here", "_law_row_here"] (defScope st_mixed_l) := ⟨rfl, rfl, rfl, by decide +kernel, rfl, by decide +kernel, by decide +kernel⟩
theorem us_mixed_l (C : Kc K mg) : ∃ fd, FnG P w K mg base 2 (df_mixed_l.loc K) fd ["_law_parts_here", "_law_row_here"] (spOf K 2 F_mixed_l) ∧ PySem.W.keepIn K (.ref (df_mixed_l.loc K)) = true ∧ Binds K fd ["_law_parts_here", "_law_row_here"] [] ∧ FnAt K df_mixed_l fd := by
  obtain ⟨fd0, G0, k0, b0, A0⟩ := us_low_l (P := P) (w := w) (base := base) C
  obtain ⟨fd, F⟩ := C.df 14 (d := df_mixed_l) rfl
  refine ⟨fd, fn_ok F sc_mixed_l fun cdv A outer s0 H E B => ?_, F.kp, F.bindsN fun _ _ _ _ _ _ us hl => match us, hl with | [_, _], _ => rfl, F⟩
  exact (ss_cons (s_set (i := 2) sc_mixed_l.nd rfl (by first | exact Or.inl rfl | exact Or.inr rfl) (e_tup (a_cons k_int (a_cons k_int a_nil))))
  (ss_cons (s_for B.hp B.calm (j_range1 rfl (C.free 4 rfl) (a_cons (e_cb b_len rfl (C.free 3 rfl) bt_len (a_cons (vr 1) a_nil)) a_nil)) (g_name (i := 3) sc_mixed_l.nd rfl (by first | exact Or.inl rfl | exact Or.inr rfl)) (ss_cons (s_asg (e_ix x_ix (vr 0) (vr 3) (fun _ _ => rfl)) (g_unp B.calm (gs_cons (g_name (i := 4) sc_mixed_l.nd rfl (by first | exact Or.inl rfl | exact Or.inr rfl)) (gs_cons (g_name (i := 5) sc_mixed_l.nd rfl (by first | exact Or.inl rfl | exact Or.inr rfl)) gs_nil))))
  (ss_one (s_if (t_cmp o_gt (e_ix x_ix (vr 1) (vr 3) (fun _ _ => rfl)) k_int (nomark _)) (ss_one (s_set (i := 2) sc_mixed_l.nd rfl (by first | exact Or.inl rfl | exact Or.inr rfl) (e_call B G0 (by decide) rfl (C.glo 29 rfl) k0 b0 (a_cons (e_op o_add (e_op o_mul (e_ix x_ix (vr 2) k_int (fun _ _ => rfl)) (vr 5)) (e_op o_mul (e_op o_mul (vr 4) (e_ix x_ix (vr 1) (vr 3) (fun _ _ => rfl))) (e_ix x_ix (vr 2) k_int (fun _ _ => rfl)))) (a_cons (e_op o_mul (e_ix x_ix (vr 2) k_int (fun _ _ => rfl)) (vr 5)) a_nil))))) ss_nil))))
  (ss_one (s_ret (e_call B G0 (by decide) rfl (C.glo 29 rfl) k0 b0 (a_cons (e_ix x_ix (vr 2) k_int (fun _ _ => rfl)) (a_cons (e_op o_mul (e_ix x_ix (vr 2) k_int (fun _ _ => rfl)) (e_cb (b_sum B.calm) rfl (C.free 11 rfl) bt_sum (a_cons (vr 1) a_nil))) a_nil)))))))
theorem sc_later_l : FnScope N_later_l ["_law_talks", "_law_parts_here", "_law_road"] (defScope st_later_l) := ⟨rfl, rfl, rfl, by decide +kernel, rfl, by decide +kernel, by decide +kernel⟩
theorem us_later_l (C : Kc K mg) : ∃ fd, FnG P w K mg base 3 (df_later_l.loc K) fd ["_law_talks", "_law_parts_here", "_law_road"] (spOf K 3 F_later_l) ∧ PySem.W.keepIn K (.ref (df_later_l.loc K)) = true ∧ Binds K fd ["_law_talks", "_law_parts_here", "_law_road"] [] ∧ FnAt K df_later_l fd := by
  obtain ⟨fd0, G0, k0, b0, A0⟩ := us_mixed_l (P := P) (w := w) (base := base) C
  obtain ⟨fd, F⟩ := C.df 15 (d := df_later_l) rfl
  refine ⟨fd, fn_ok F sc_later_l fun cdv A outer s0 H E B => ?_, F.kp, F.bindsN fun _ _ _ _ _ _ us hl => match us, hl with | [_, _, _], _ => rfl, F⟩
  exact (ss_cons (s_for B.hp B.calm (i_val (vr 2)) (g_name (i := 3) sc_later_l.nd rfl (by first | exact Or.inl rfl | exact Or.inr rfl)) (ss_one (s_set (i := 1) sc_later_l.nd rfl (by first | exact Or.inl rfl | exact Or.inr rfl) (e_cty b_tup rfl (C.free 5 rfl) bt_tuple (a_cons (e_lc B.calm sc_later_l.nd (i_val (e_ix x_ix (vr 0) (vr 3) (fun _ _ => rfl))) (own := [("_law_row_here", 4)]) (blk_ok (by kernel_rfl)) (fun _ _ _ _ _ => (gw_name (i := 4) (by decide) sc_later_l.nd rfl (by first | exact Or.inl rfl | exact Or.inr rfl))) (fun _ _ _ _ _ => ts_nil) (fun _ _ _ _ _ => (e_call (bd_blk B) G0 (by decide) rfl (C.glo 30 rfl) k0 b0 (a_cons (vr 1) (a_cons (vr 4) a_nil))))) a_nil)))))
  (ss_one (s_ret (vr 1))))
theorem sc_Council_minds : FnScope N_Council_minds ["self"] (defScope st_Council_minds) := ⟨rfl, rfl, rfl, by decide +kernel, rfl, by decide +kernel, by decide +kernel⟩
theorem us_Council_minds (C : Kc K mg) : ∃ fd, FnG P w K mg base 1 (df_Council_minds.loc K) fd ["self"] (spOf K 1 F_Council_minds) ∧ PySem.W.keepIn K (.ref (df_Council_minds.loc K)) = true ∧ Binds K fd ["self"] [] ∧ FnAt K df_Council_minds fd := by
  obtain ⟨fd, F⟩ := C.df 16 (d := df_Council_minds) rfl
  refine ⟨fd, fn_ok F sc_Council_minds fun cdv A outer s0 H E B => ?_, F.kp, F.bindsN fun _ _ _ _ _ _ us hl => match us, hl with | [_], _ => rfl, F⟩
  exact (ss_one (s_ret (e_fld (one_ ⟨He.cls_ok (C.ok 6 rfl), He.noat_ok (C.ok 23 rfl)⟩) (vr 0))))
theorem sc_even_rows : FnScope N_even_rows ["way"] (defScope st_even_rows) := ⟨rfl, rfl, rfl, by decide +kernel, rfl, by decide +kernel, by decide +kernel⟩
theorem us_even_rows (C : Kc K mg) : ∃ fd, FnG P w K mg base 2 (df_even_rows.loc K) fd ["way"] (spOf K 1 F_even_rows) ∧ PySem.W.keepIn K (.ref (df_even_rows.loc K)) = true ∧ Binds K fd ["way"] [] ∧ FnAt K df_even_rows fd := by
  obtain ⟨fd0, G0, k0, b0, A0⟩ := us_reduced (P := P) (w := w) (base := base) C
  obtain ⟨fd, F⟩ := C.df 17 (d := df_even_rows) rfl
  refine ⟨fd, fn_ok F sc_even_rows fun cdv A outer s0 H E B => ?_, F.kp, F.bindsN fun _ _ _ _ _ _ us hl => match us, hl with | [_], _ => rfl, F⟩
  exact (ss_one (s_ret (e_cty b_tup rfl (C.free 5 rfl) bt_tuple (a_cons (e_lc B.calm sc_even_rows.nd (i_val (vr 0)) (own := [("row", 1)]) (blk_ok (by kernel_rfl)) (fun _ _ _ _ _ => (gw_name (i := 1) (by decide) sc_even_rows.nd rfl (by first | exact Or.inl rfl | exact Or.inr rfl))) (fun _ _ _ _ _ => ts_nil) (fun _ _ _ _ _ => (e_cty b_tup rfl (C.free 5 rfl) bt_tuple (a_cons (e_lc (bd_blk B).calm sc_even_rows.nd (i_val (vr 1)) (own := [("weight", 2)]) (blk_ok (by kernel_rfl)) (fun _ _ _ _ _ => (gw_name (i := 2) (by decide) sc_even_rows.nd rfl (by first | exact Or.inl rfl | exact Or.inr rfl))) (fun _ _ _ _ _ => ts_nil) (fun _ _ _ _ _ => (e_call (bd_blk (bd_blk B)) G0 (by decide) rfl (C.glo 10 rfl) k0 b0 (a_cons (vr 2) (a_cons (e_cb (b_sum (bd_blk (bd_blk B)).calm) rfl (C.free 11 rfl) bt_sum (a_cons (vr 1) a_nil)) a_nil))))) a_nil)))) a_nil))))
theorem sc_ask : FnScope N_ask ["council"] (defScope st_ask) := ⟨rfl, rfl, rfl, by decide +kernel, rfl, by decide +kernel, by decide +kernel⟩
theorem us_ask (C : Kc K mg) : ∃ fd, FnG P w K mg base 5 (df_ask.loc K) fd ["council"] (spOf K 1 F_ask) ∧ PySem.W.keepIn K (.ref (df_ask.loc K)) = true ∧ Binds K fd ["council"] [] ∧ FnAt K df_ask fd := by
  obtain ⟨fd0, G0, k0, b0, A0⟩ := us_Council_ways (P := P) (w := w) (base := base) C
  obtain ⟨fd1, G1, k1, b1, A1⟩ := us_day_of (P := P) (w := w) (base := base) C
  obtain ⟨fd2, G2, k2, b2, A2⟩ := us_Council_minds (P := P) (w := w) (base := base) C
  obtain ⟨fd3, G3, k3, b3, A3⟩ := us_even_rows (P := P) (w := w) (base := base) C
  obtain ⟨fd4, G4, k4, b4, A4⟩ := us_check_council (P := P) (w := w) (base := base) C
  obtain ⟨fd, F⟩ := C.df 18 (d := df_ask) rfl
  refine ⟨fd, fn_scop (fn_ok F sc_ask fun cdv A outer s0 H E B => ?_), F.kp, F.bindsN fun _ _ _ _ _ _ us hl => match us, hl with | [_], _ => rfl, F⟩
  exact (ss_cons (s_expr (e_call B G4 (by decide) rfl (C.glo 26 rfl) k4 b4 (a_cons (vr 0) a_nil)))
  (ss_cons (s_par (i := 1) (j := 2) B.calm sc_ask.nd rfl rfl (by decide) rfl rfl (a_cons k_int (a_cons (e_lenSetN B.calm B.u64 rfl (C.free 3 rfl) rfl (C.free 32 rfl) (e_lc B.calm sc_ask.nd (i_val (e_prop B (He.cls_ok (C.ok 6 rfl)) C.ex0.choose_spec G0 (by decide) b0 (vr 0))) (own := [("way", 6)]) (blk_ok (by kernel_rfl)) (fun _ _ _ _ _ => (gw_name (i := 6) (by decide) sc_ask.nd rfl (by first | exact Or.inl rfl | exact Or.inr rfl))) (fun _ _ _ _ _ => ts_nil) (fun _ _ _ _ _ => (e_call (bd_blk B) G3 (by decide) rfl (C.glo 33 rfl) k3 b3 (a_cons (vr 6) a_nil))))) a_nil)) rfl)
  (ss_one (s_while B.hp (t_val k_bl) (ss_cons (s_asg (e_tup (a_cons (e_lstC a_nil) (a_cons k_int a_nil))) (g_unp B.calm (gs_cons (g_name (i := 4) sc_ask.nd rfl (by first | exact Or.inl rfl | exact Or.inr rfl)) (gs_cons (g_name (i := 5) sc_ask.nd rfl (by first | exact Or.inl rfl | exact Or.inr rfl)) gs_nil))))
  (ss_cons (s_for B.hp B.calm (i_val (e_prop B (He.cls_ok (C.ok 6 rfl)) C.ex3.choose_spec G2 (by decide) b2 (vr 0))) (g_name (i := 3) sc_ask.nd rfl (by first | exact Or.inl rfl | exact Or.inr rfl)) (ss_cons (s_expr (e_bm PySem.F.plainAttrs_list PySem.F.slot_list_append PySem.F.type_list_append m_append tv_lst (vr 4) (a_cons (e_tup (a_cons (vr 5) (a_cons k_int a_nil))) a_nil)))
  (ss_one (s_augMul (i := 5) sc_ask.nd rfl (by first | exact Or.inl rfl | exact Or.inr rfl) (vr 1)))))
  (ss_cons (s_if (t_cmp (o_eq B.u64) (e_lenSetN B.calm B.u64 rfl (C.free 3 rfl) rfl (C.free 32 rfl) (e_lc B.calm sc_ask.nd (i_val (e_prop B (He.cls_ok (C.ok 6 rfl)) C.ex0.choose_spec G0 (by decide) b0 (vr 0))) (own := [("way", 6)]) (blk_ok (by kernel_rfl)) (fun _ _ _ _ _ => (gw_name (i := 6) (by decide) sc_ask.nd rfl (by first | exact Or.inl rfl | exact Or.inr rfl))) (fun _ _ _ _ _ => ts_nil) (fun _ _ _ _ _ => (e_call (bd_blk B) G1 (by decide) rfl (C.glo 16 rfl) k1 b1 (a_cons (vr 6) (a_cons (e_cty b_tup rfl (C.free 5 rfl) bt_tuple (a_cons (vr 4) a_nil)) a_nil)))))) (vr 2) (nomark _)) (ss_one (s_ret (e_cty b_tup rfl (C.free 5 rfl) bt_tuple (a_cons (vr 4) a_nil)))) ss_nil)
  (ss_one (s_augAdd (i := 1) sc_ask.nd rfl (by first | exact Or.inl rfl | exact Or.inr rfl) k_int)))))))))
theorem sc_thoughts_after : FnScope N_thoughts_after ["council", "thoughts", "word"] (defScope st_thoughts_after) := ⟨rfl, rfl, rfl, by decide +kernel, rfl, by decide +kernel, by decide +kernel⟩
theorem us_thoughts_after (C : Kc K mg) : ∃ fd, FnG P w K mg base 5 (df_thoughts_after.loc K) fd ["council", "thoughts", "word"] (spOf K 3 F_thoughts_after) ∧ PySem.W.keepIn K (.ref (df_thoughts_after.loc K)) = true ∧ Binds K fd ["council", "thoughts", "word"] [] ∧ FnAt K df_thoughts_after fd := by
  obtain ⟨fd0, G0, k0, b0, A0⟩ := us_day_of (P := P) (w := w) (base := base) C
  obtain ⟨fd1, G1, k1, b1, A1⟩ := us_Council_ways (P := P) (w := w) (base := base) C
  obtain ⟨fd, F⟩ := C.df 19 (d := df_thoughts_after) rfl
  refine ⟨fd, fn_ok F sc_thoughts_after fun cdv A outer s0 H E B => ?_, F.kp, F.bindsN fun _ _ _ _ _ _ us hl => match us, hl with | [_, _, _], _ => rfl, F⟩
  exact (ss_cons (s_for B.hp B.calm (i_val (vr 2)) (g_name (i := 3) sc_thoughts_after.nd rfl (by first | exact Or.inl rfl | exact Or.inr rfl)) (ss_one (s_set (i := 1) sc_thoughts_after.nd rfl (by first | exact Or.inl rfl | exact Or.inr rfl) (e_call B G0 (by decide) rfl (C.glo 16 rfl) k0 b0 (a_cons (e_ix x_ix (e_prop B (He.cls_ok (C.ok 6 rfl)) C.ex0.choose_spec G1 (by decide) b1 (vr 0)) (vr 3) (fun _ _ => rfl)) (a_cons (vr 1) a_nil))))))
  (ss_one (s_ret (vr 1))))
theorem sc_is_within : FnScope N_is_within ["value", "least", "most"] (defScope st_is_within) := ⟨rfl, rfl, rfl, by decide +kernel, rfl, by decide +kernel, by decide +kernel⟩
theorem us_is_within (C : Kc K mg) : ∃ fd, FnG P w K mg base 2 (df_is_within.loc K) fd ["value", "least", "most"] (spOf K 3 F_is_within) ∧ PySem.W.keepIn K (.ref (df_is_within.loc K)) = true ∧ Binds K fd ["value", "least", "most"] [] ∧ FnAt K df_is_within fd := by
  obtain ⟨fd0, G0, k0, b0, A0⟩ := us_is_integer (P := P) (w := w) (base := base) C
  obtain ⟨fd, F⟩ := C.df 20 (d := df_is_within) rfl
  refine ⟨fd, fn_ok F sc_is_within fun cdv A outer s0 H E B => ?_, F.kp, F.bindsN fun _ _ _ _ _ _ us hl => match us, hl with | [_, _, _], _ => rfl, F⟩
  exact (ss_one (s_ret (e_and (e_call B G0 (by decide) rfl (C.glo 20 rfl) k0 b0 (a_cons (vr 0) a_nil)) (e_one (e_chain o_le o_le (vr 1) (vr 0) (vr 2))))))
theorem sc_wrong_day : FnScope N_wrong_day ["count", "word"] (defScope st_wrong_day) := ⟨rfl, rfl, rfl, by decide +kernel, rfl, by decide +kernel, by decide +kernel⟩
theorem us_wrong_day (C : Kc K mg) : ∃ fd, FnG P w K mg base 3 (df_wrong_day.loc K) fd ["count", "word"] (spOf K 2 F_wrong_day) ∧ PySem.W.keepIn K (.ref (df_wrong_day.loc K)) = true ∧ Binds K fd ["count", "word"] [] ∧ FnAt K df_wrong_day fd := by
  obtain ⟨fd0, G0, k0, b0, A0⟩ := us_is_within (P := P) (w := w) (base := base) C
  obtain ⟨fd, F⟩ := C.df 21 (d := df_wrong_day) rfl
  refine ⟨fd, fn_ok F sc_wrong_day fun cdv A outer s0 H E B => ?_, F.kp, F.bindsN fun _ _ _ _ _ _ us hl => match us, hl with | [_, _], _ => rfl, F⟩
  exact (ss_cons (s_if (t_not (t_val (e_cb (b_isi C.iso) rfl (C.free 17 rfl) bt_isinstance (a_cons (vr 1) (a_cons (g_ty (C.free 5 rfl) bt_tuple) a_nil))))) (ss_one (s_ret (e_tup (a_cons k_non a_nil)))) ss_nil)
  (ss_cons (s_for B.hp B.calm (j_enum rfl (C.free 8 rfl) (a_cons (vr 1) a_nil)) (g_unp B.calm (gs_cons (g_name (i := 2) sc_wrong_day.nd rfl (by first | exact Or.inl rfl | exact Or.inr rfl)) (gs_cons (g_name (i := 3) sc_wrong_day.nd rfl (by first | exact Or.inl rfl | exact Or.inr rfl)) gs_nil))) (ss_one (s_if (PW.pt (w_or (t_not (t_val (e_call B G0 (by decide) rfl (C.glo 36 rfl) k0 b0 (a_cons (vr 3) (a_cons k_int (a_cons (e_op o_sub (vr 0) k_int) a_nil)))))) (w_or1 (t_cmp o_ge (vr 2) (g_int (C.int 37 rfl)) (nomark _))))) (ss_one (s_ret (e_tup (a_cons (vr 2) a_nil)))) ss_nil)))
  (ss_one (s_ret (e_tup a_nil)))))
theorem sc_check_word : FnScope N_check_word ["council", "word"] (defScope st_check_word) := ⟨rfl, rfl, rfl, by decide +kernel, rfl, by decide +kernel, by decide +kernel⟩
theorem us_check_word (C : Kc K mg) : ∃ fd, FnG P w K mg base 4 (df_check_word.loc K) fd ["council", "word"] (spOf K 2 F_check_word) ∧ PySem.W.keepIn K (.ref (df_check_word.loc K)) = true ∧ Binds K fd ["council", "word"] [] ∧ FnAt K df_check_word fd := by
  obtain ⟨fd0, G0, k0, b0, A0⟩ := us_wrong_day (P := P) (w := w) (base := base) C
  obtain ⟨fd1, G1, k1, b1, A1⟩ := us_Council_ways (P := P) (w := w) (base := base) C
  obtain ⟨fd2, G2, k2, b2, A2⟩ := us_check_council (P := P) (w := w) (base := base) C
  obtain ⟨fd, F⟩ := C.df 22 (d := df_check_word) rfl
  refine ⟨fd, fn_ok F sc_check_word fun cdv A outer s0 H E B => ?_, F.kp, F.bindsN fun _ _ _ _ _ _ us hl => match us, hl with | [_, _], _ => rfl, F⟩
  exact (ss_cons (s_expr (e_call B G2 (by decide) rfl (C.glo 26 rfl) k2 b2 (a_cons (vr 0) a_nil)))
  (ss_cons (s_set (i := 2) sc_check_word.nd rfl (by first | exact Or.inl rfl | exact Or.inr rfl) (e_call B G0 (by decide) rfl (C.glo 38 rfl) k0 b0 (a_cons (e_cb b_len rfl (C.free 3 rfl) bt_len (a_cons (e_prop B (He.cls_ok (C.ok 6 rfl)) C.ex0.choose_spec G1 (by decide) b1 (vr 0)) a_nil)) (a_cons (vr 1) a_nil))))
  (ss_one (s_if (t_cmp (o_ne B.u64) (vr 2) (e_tup a_nil) (nomark _)) (ss_one s_never) ss_nil))))
theorem sc_after : FnScope N_after ["council", "thoughts", "word"] (defScope st_after) := ⟨rfl, rfl, rfl, by decide +kernel, rfl, by decide +kernel, by decide +kernel⟩
theorem us_after (C : Kc K mg) : ∃ fd, FnG P w K mg base 6 (df_after.loc K) fd ["council", "thoughts", "word"] (spOf K 3 F_after) ∧ PySem.W.keepIn K (.ref (df_after.loc K)) = true ∧ Binds K fd ["council", "thoughts", "word"] [] ∧ FnAt K df_after fd := by
  obtain ⟨fd0, G0, k0, b0, A0⟩ := us_thoughts_after (P := P) (w := w) (base := base) C
  obtain ⟨fd1, G1, k1, b1, A1⟩ := us_check_word (P := P) (w := w) (base := base) C
  obtain ⟨fd2, G2, k2, b2, A2⟩ := us_check_thoughts (P := P) (w := w) (base := base) C
  obtain ⟨fd3, G3, k3, b3, A3⟩ := us_check_council (P := P) (w := w) (base := base) C
  obtain ⟨fd, F⟩ := C.df 23 (d := df_after) rfl
  refine ⟨fd, fn_ok F sc_after fun cdv A outer s0 H E B => ?_, F.kp, F.bindsN fun _ _ _ _ _ _ us hl => match us, hl with | [_, _, _], _ => rfl, F⟩
  exact (ss_cons (s_expr (e_call B G3 (by decide) rfl (C.glo 26 rfl) k3 b3 (a_cons (vr 0) a_nil)))
  (ss_cons (s_expr (e_call B G2 (by decide) rfl (C.glo 24 rfl) k2 b2 (a_cons (vr 0) (a_cons (vr 1) a_nil))))
  (ss_cons (s_expr (e_call B G1 (by decide) rfl (C.glo 39 rfl) k1 b1 (a_cons (vr 0) (a_cons (vr 2) a_nil))))
  (ss_one (s_ret (e_call B G0 (by decide) rfl (C.glo 35 rfl) k0 b0 (a_cons (vr 0) (a_cons (vr 1) (a_cons (vr 2) a_nil)))))))))
theorem sc_alike : FnScope N_alike ["council"] (defScope st_alike) := ⟨rfl, rfl, rfl, by decide +kernel, rfl, by decide +kernel, by decide +kernel⟩
theorem us_alike (C : Kc K mg) : ∃ fd, FnG P w K mg base 3 (df_alike.loc K) fd ["council"] (spOf K 1 F_alike) ∧ PySem.W.keepIn K (.ref (df_alike.loc K)) = true ∧ Binds K fd ["council"] [] ∧ FnAt K df_alike fd := by
  obtain ⟨fd0, G0, k0, b0, A0⟩ := us_Council_ways (P := P) (w := w) (base := base) C
  obtain ⟨fd1, G1, k1, b1, A1⟩ := us_even_rows (P := P) (w := w) (base := base) C
  obtain ⟨fd2, G2, k2, b2, A2⟩ := us_check_council (P := P) (w := w) (base := base) C
  obtain ⟨fd, F⟩ := C.df 24 (d := df_alike) rfl
  refine ⟨fd, fn_scop (fn_ok F sc_alike fun cdv A outer s0 H E B => ?_), F.kp, F.bindsN fun _ _ _ _ _ _ us hl => match us, hl with | [_], _ => rfl, F⟩
  exact (ss_cons (s_expr (e_call B G2 (by decide) rfl (C.glo 26 rfl) k2 b2 (a_cons (vr 0) a_nil)))
  (ss_cons (s_par (i := 1) (j := 2) B.calm sc_alike.nd rfl rfl (by decide) rfl rfl (a_cons (e_lc B.calm sc_alike.nd (i_val (e_prop B (He.cls_ok (C.ok 6 rfl)) C.ex0.choose_spec G0 (by decide) b0 (vr 0))) (own := [("way", 5)]) (blk_ok (by kernel_rfl)) (fun _ _ _ _ _ => (gw_name (i := 5) (by decide) sc_alike.nd rfl (by first | exact Or.inl rfl | exact Or.inr rfl))) (fun _ _ _ _ _ => ts_nil) (fun _ _ _ _ _ => (e_call (bd_blk B) G1 (by decide) rfl (C.glo 33 rfl) k1 b1 (a_cons (vr 5) a_nil)))) (a_cons (e_lstC a_nil) a_nil)) rfl)
  (ss_cons (s_for B.hp B.calm (j_enum rfl (C.free 8 rfl) (a_cons (vr 1) a_nil)) (g_unp B.calm (gs_cons (g_name (i := 3) sc_alike.nd rfl (by first | exact Or.inl rfl | exact Or.inr rfl)) (gs_cons (g_name (i := 4) sc_alike.nd rfl (by first | exact Or.inl rfl | exact Or.inr rfl)) gs_nil))) (ss_one (s_if (t_cmp (o_notin B.u65) (vr 4) (e_sl (vr 1) o_none (o_some (vr 3))) rfl) (ss_one (s_expr (e_bm PySem.F.plainAttrs_list PySem.F.slot_list_append PySem.F.type_list_append m_append tv_lst (vr 2) (a_cons (e_cty b_tup rfl (C.free 5 rfl) bt_tuple (a_cons (e_lc B.calm sc_alike.nd (j_enum rfl (C.free 8 rfl) (a_cons (vr 1) a_nil)) (own := [("place", 6), ("other", 7)]) (blk_ok (by kernel_rfl)) (fun _ _ _ _ _ => (gw_unp (bd_blk B).calm (gws_cons (gw_name (i := 6) (by decide) sc_alike.nd rfl (by first | exact Or.inl rfl | exact Or.inr rfl)) (gws_cons (gw_name (i := 7) (by decide) sc_alike.nd rfl (by first | exact Or.inl rfl | exact Or.inr rfl)) gws_nil)))) (fun _ _ _ _ _ => (ts_one (t_cmp (o_eq (bd_blk B).u64) (vr 7) (vr 4) (nomark _)))) (fun _ _ _ _ _ => (vr 6))) a_nil)) a_nil)))) ss_nil)))
  (ss_one (s_ret (e_cty b_tup rfl (C.free 5 rfl) bt_tuple (a_cons (vr 2) a_nil)))))))
theorem sc_is_like_l : FnScope N_is_like_l ["_law_one", "_law_two"] (defScope st_is_like_l) := ⟨rfl, rfl, rfl, by decide +kernel, rfl, by decide +kernel, by decide +kernel⟩
theorem us_is_like_l (C : Kc K mg) : ∃ fd, FnG P w K mg base 1 (df_is_like_l.loc K) fd ["_law_one", "_law_two"] (spOf K 2 F_is_like_l) ∧ PySem.W.keepIn K (.ref (df_is_like_l.loc K)) = true ∧ Binds K fd ["_law_one", "_law_two"] [] ∧ FnAt K df_is_like_l fd := by
  obtain ⟨fd, F⟩ := C.df 25 (d := df_is_like_l) rfl
  refine ⟨fd, fn_ok F sc_is_like_l fun cdv A outer s0 H E B => ?_, F.kp, F.bindsN fun _ _ _ _ _ _ us hl => match us, hl with | [_, _], _ => rfl, F⟩
  exact (ss_cons (s_for B.hp B.calm (j_range1 rfl (C.free 4 rfl) (a_cons (e_cb b_len rfl (C.free 3 rfl) bt_len (a_cons (vr 0) a_nil)) a_nil)) (g_name (i := 2) sc_is_like_l.nd rfl (by first | exact Or.inl rfl | exact Or.inr rfl)) (ss_cons (s_asg (e_tup (a_cons (e_cb (b_sum B.calm) rfl (C.free 11 rfl) bt_sum (a_cons (e_ix x_ix (vr 0) (vr 2) (fun _ _ => rfl)) a_nil)) (a_cons (e_cb (b_sum B.calm) rfl (C.free 11 rfl) bt_sum (a_cons (e_ix x_ix (vr 1) (vr 2) (fun _ _ => rfl)) a_nil)) a_nil))) (g_unp B.calm (gs_cons (g_name (i := 3) sc_is_like_l.nd rfl (by first | exact Or.inl rfl | exact Or.inr rfl)) (gs_cons (g_name (i := 4) sc_is_like_l.nd rfl (by first | exact Or.inl rfl | exact Or.inr rfl)) gs_nil))))
  (ss_one (s_if (t_cmp (o_ne B.u64) (e_lc B.calm sc_is_like_l.nd (j_range1 rfl (C.free 4 rfl) (a_cons (e_cb b_len rfl (C.free 3 rfl) bt_len (a_cons (vr 0) a_nil)) a_nil)) (own := [("_law_j", 5)]) (blk_ok (by kernel_rfl)) (fun _ _ _ _ _ => (gw_name (i := 5) (by decide) sc_is_like_l.nd rfl (by first | exact Or.inl rfl | exact Or.inr rfl))) (fun _ _ _ _ _ => (ts_one (t_cmp (o_ne (bd_blk B).u64) (e_op o_mul (e_ix x_ix (e_ix x_ix (vr 0) (vr 2) (fun _ _ => rfl)) (vr 5) (fun _ _ => rfl)) (vr 4)) (e_op o_mul (e_ix x_ix (e_ix x_ix (vr 1) (vr 2) (fun _ _ => rfl)) (vr 5) (fun _ _ => rfl)) (vr 3)) (nomark _)))) (fun _ _ _ _ _ => (vr 5))) (e_lst a_nil) (nomark _)) (ss_one (s_ret k_bl)) ss_nil))))
  (ss_one (s_ret k_bl)))
theorem sc_is_row : FnScope N_is_row ["value", "count"] (defScope st_is_row) := ⟨rfl, rfl, rfl, by decide +kernel, rfl, by decide +kernel, by decide +kernel⟩
theorem us_is_row (C : Kc K mg) : ∃ fd, FnG P w K mg base 3 (df_is_row.loc K) fd ["value", "count"] (spOf K 2 F_is_row) ∧ PySem.W.keepIn K (.ref (df_is_row.loc K)) = true ∧ Binds K fd ["value", "count"] [] ∧ FnAt K df_is_row fd := by
  obtain ⟨fd0, G0, k0, b0, A0⟩ := us_is_within (P := P) (w := w) (base := base) C
  obtain ⟨fd, F⟩ := C.df 26 (d := df_is_row) rfl
  refine ⟨fd, fn_ok F sc_is_row fun cdv A outer s0 H E B => ?_, F.kp, F.bindsN fun _ _ _ _ _ _ us hl => match us, hl with | [_, _], _ => rfl, F⟩
  exact (ss_cons (s_if (PW.pt (w_or (t_not (t_val (e_cb (b_isi C.iso) rfl (C.free 17 rfl) bt_isinstance (a_cons (vr 0) (a_cons (g_ty (C.free 5 rfl) bt_tuple) a_nil))))) (w_or1 (t_cmp (o_ne B.u64) (e_cb b_len rfl (C.free 3 rfl) bt_len (a_cons (vr 0) a_nil)) (vr 1) (nomark _))))) (ss_one (s_ret k_bl)) ss_nil)
  (ss_one (s_ret (e_and (e_cb (b_all B.calm) rfl (C.free 0 rfl) bt_all (a_cons (e_lc B.calm sc_is_row.nd (i_val (vr 0)) (own := [("weight", 2)]) (blk_ok (by kernel_rfl)) (fun _ _ _ _ _ => (gw_name (i := 2) (by decide) sc_is_row.nd rfl (by first | exact Or.inl rfl | exact Or.inr rfl))) (fun _ _ _ _ _ => ts_nil) (fun _ _ _ _ _ => (e_call (bd_blk B) G0 (by decide) rfl (C.glo 36 rfl) k0 b0 (a_cons (vr 2) (a_cons k_int (a_cons (g_int (C.int 44 rfl)) a_nil)))))) a_nil)) (e_one (e_cmp o_gt (e_cb (b_sum B.calm) rfl (C.free 11 rfl) bt_sum (a_cons (vr 0) a_nil)) k_int (nomark _)))))))
theorem sc_is_way : FnScope N_is_way ["value", "count"] (defScope st_is_way) := ⟨rfl, rfl, rfl, by decide +kernel, rfl, by decide +kernel, by decide +kernel⟩
theorem us_is_way (C : Kc K mg) : ∃ fd, FnG P w K mg base 4 (df_is_way.loc K) fd ["value", "count"] (spOf K 2 F_is_way) ∧ PySem.W.keepIn K (.ref (df_is_way.loc K)) = true ∧ Binds K fd ["value", "count"] [] ∧ FnAt K df_is_way fd := by
  obtain ⟨fd0, G0, k0, b0, A0⟩ := us_is_row (P := P) (w := w) (base := base) C
  obtain ⟨fd, F⟩ := C.df 27 (d := df_is_way) rfl
  refine ⟨fd, fn_ok F sc_is_way fun cdv A outer s0 H E B => ?_, F.kp, F.bindsN fun _ _ _ _ _ _ us hl => match us, hl with | [_, _], _ => rfl, F⟩
  exact (ss_one (s_ret (e_and (e_cb (b_isi C.iso) rfl (C.free 17 rfl) bt_isinstance (a_cons (vr 0) (a_cons (g_ty (C.free 5 rfl) bt_tuple) a_nil))) (e_and (e_cmp (o_eq B.u64) (e_cb b_len rfl (C.free 3 rfl) bt_len (a_cons (vr 0) a_nil)) (vr 1) (nomark _)) (e_one (e_cb (b_all B.calm) rfl (C.free 0 rfl) bt_all (a_cons (e_lc B.calm sc_is_way.nd (i_val (vr 0)) (own := [("row", 2)]) (blk_ok (by kernel_rfl)) (fun _ _ _ _ _ => (gw_name (i := 2) (by decide) sc_is_way.nd rfl (by first | exact Or.inl rfl | exact Or.inr rfl))) (fun _ _ _ _ _ => ts_nil) (fun _ _ _ _ _ => (e_call (bd_blk B) G0 (by decide) rfl (C.glo 45 rfl) k0 b0 (a_cons (vr 2) (a_cons (vr 1) a_nil))))) a_nil)))))))
theorem sc_wrong_way : FnScope N_wrong_way ["ways", "count"] (defScope st_wrong_way) := ⟨rfl, rfl, rfl, by decide +kernel, rfl, by decide +kernel, by decide +kernel⟩
theorem us_wrong_way (C : Kc K mg) : ∃ fd, FnG P w K mg base 5 (df_wrong_way.loc K) fd ["ways", "count"] (spOf K 2 F_wrong_way) ∧ PySem.W.keepIn K (.ref (df_wrong_way.loc K)) = true ∧ Binds K fd ["ways", "count"] [] ∧ FnAt K df_wrong_way fd := by
  obtain ⟨fd0, G0, k0, b0, A0⟩ := us_is_way (P := P) (w := w) (base := base) C
  obtain ⟨fd, F⟩ := C.df 28 (d := df_wrong_way) rfl
  refine ⟨fd, fn_ok F sc_wrong_way fun cdv A outer s0 H E B => ?_, F.kp, F.bindsN fun _ _ _ _ _ _ us hl => match us, hl with | [_, _], _ => rfl, F⟩
  exact (ss_cons (s_if (PW.pt (w_or (t_not (t_val (e_cb (b_isi C.iso) rfl (C.free 17 rfl) bt_isinstance (a_cons (vr 0) (a_cons (g_ty (C.free 5 rfl) bt_tuple) a_nil))))) (w_or1 (t_cmp (o_eq B.u64) (e_cb b_len rfl (C.free 3 rfl) bt_len (a_cons (vr 0) a_nil)) k_int (nomark _))))) (ss_one (s_ret (e_tup (a_cons k_non a_nil)))) ss_nil)
  (ss_cons (s_for B.hp B.calm (j_enum rfl (C.free 8 rfl) (a_cons (vr 0) a_nil)) (g_unp B.calm (gs_cons (g_name (i := 2) sc_wrong_way.nd rfl (by first | exact Or.inl rfl | exact Or.inr rfl)) (gs_cons (g_name (i := 3) sc_wrong_way.nd rfl (by first | exact Or.inl rfl | exact Or.inr rfl)) gs_nil))) (ss_one (s_if (PW.pt (w_or (t_not (t_val (e_call B G0 (by decide) rfl (C.glo 46 rfl) k0 b0 (a_cons (vr 3) (a_cons (vr 1) a_nil))))) (w_or1 (t_cmp o_ge (vr 2) (g_int (C.int 47 rfl)) (nomark _))))) (ss_one (s_ret (e_tup (a_cons (vr 2) a_nil)))) ss_nil)))
  (ss_one (s_ret (e_tup a_nil)))))
theorem sc_is_name : FnScope N_is_name ["value"] (defScope st_is_name) := ⟨rfl, rfl, rfl, by decide +kernel, rfl, by decide +kernel, by decide +kernel⟩
theorem us_is_name (C : Kc K mg) : ∃ fd, FnG P w K mg base 1 (df_is_name.loc K) fd ["value"] (spOf K 1 F_is_name) ∧ PySem.W.keepIn K (.ref (df_is_name.loc K)) = true ∧ Binds K fd ["value"] [] ∧ FnAt K df_is_name fd := by
  obtain ⟨fd, F⟩ := C.df 29 (d := df_is_name) rfl
  refine ⟨fd, fn_ok F sc_is_name fun cdv A outer s0 H E B => ?_, F.kp, F.bindsN fun _ _ _ _ _ _ us hl => match us, hl with | [_], _ => rfl, F⟩
  exact (ss_cons (s_if (PW.pt (w_or (t_not (t_val (e_cb (b_isi C.iso) rfl (C.free 17 rfl) bt_isinstance (a_cons (vr 0) (a_cons (g_ty (C.free 51 rfl) bt_str) a_nil))))) (w_or1 (t_not (t_chain o_le o_le k_int (e_cb b_len rfl (C.free 3 rfl) bt_len (a_cons (vr 0) a_nil)) (g_int (C.int 52 rfl))))))) (ss_one (s_ret k_bl)) ss_nil)
  (ss_one (s_ret (e_and (e_cmp (o_in B.u65) (e_ix x_ix (vr 0) k_int (fun _ _ => rfl)) (g_str (C.str 49 rfl)) rfl) (e_one (e_cb (b_all B.calm) rfl (C.free 0 rfl) bt_all (a_cons (e_lc B.calm sc_is_name.nd (i_val (vr 0)) (own := [("sign", 1)]) (blk_ok (by kernel_rfl)) (fun _ _ _ _ _ => (gw_name (i := 1) (by decide) sc_is_name.nd rfl (by first | exact Or.inl rfl | exact Or.inr rfl))) (fun _ _ _ _ _ => ts_nil) (fun _ _ _ _ _ => (e_or (e_cmp (o_in (bd_blk B).u65) (vr 1) (g_str (C.str 49 rfl)) rfl) (e_one (e_cmp (o_in (bd_blk B).u65) (vr 1) (g_str (C.str 50 rfl)) rfl))))) a_nil)))))))
theorem sc_wrong_mind : FnScope N_wrong_mind ["minds"] (defScope st_wrong_mind) := ⟨rfl, rfl, rfl, by decide +kernel, rfl, by decide +kernel, by decide +kernel⟩
theorem us_wrong_mind (C : Kc K mg) : ∃ fd, FnG P w K mg base 2 (df_wrong_mind.loc K) fd ["minds"] (spOf K 1 F_wrong_mind) ∧ PySem.W.keepIn K (.ref (df_wrong_mind.loc K)) = true ∧ Binds K fd ["minds"] [] ∧ FnAt K df_wrong_mind fd := by
  obtain ⟨fd0, G0, k0, b0, A0⟩ := us_is_name (P := P) (w := w) (base := base) C
  obtain ⟨fd, F⟩ := C.df 30 (d := df_wrong_mind) rfl
  refine ⟨fd, fn_ok F sc_wrong_mind fun cdv A outer s0 H E B => ?_, F.kp, F.bindsN fun _ _ _ _ _ _ us hl => match us, hl with | [_], _ => rfl, F⟩
  exact (ss_cons (s_if (PW.pt (w_or (t_not (t_val (e_cb (b_isi C.iso) rfl (C.free 17 rfl) bt_isinstance (a_cons (vr 0) (a_cons (g_ty (C.free 5 rfl) bt_tuple) a_nil))))) (w_or1 (t_cmp (o_eq B.u64) (e_cb b_len rfl (C.free 3 rfl) bt_len (a_cons (vr 0) a_nil)) k_int (nomark _))))) (ss_one (s_ret (e_tup (a_cons k_non a_nil)))) ss_nil)
  (ss_cons (s_for B.hp B.calm (j_enum rfl (C.free 8 rfl) (a_cons (vr 0) a_nil)) (g_unp B.calm (gs_cons (g_name (i := 1) sc_wrong_mind.nd rfl (by first | exact Or.inl rfl | exact Or.inr rfl)) (gs_cons (g_name (i := 2) sc_wrong_mind.nd rfl (by first | exact Or.inl rfl | exact Or.inr rfl)) gs_nil))) (ss_one (s_if (PW.pt (w_or (t_not (t_val (e_call B G0 (by decide) rfl (C.glo 53 rfl) k0 b0 (a_cons (vr 2) a_nil)))) (w_or (t_cmp o_ge (vr 1) (g_int (C.int 54 rfl)) (nomark _)) (w_or1 (t_cmp (o_in B.u65) (vr 2) (e_sl (vr 0) o_none (o_some (vr 1))) rfl))))) (ss_one (s_ret (e_tup (a_cons (vr 1) a_nil)))) ss_nil)))
  (ss_one (s_ret (e_tup a_nil)))))
theorem sc_Councild_initd : FnScope N_Councild_initd ["self", "minds", "ways"] (defScope st_Councild_initd) := ⟨rfl, rfl, rfl, by decide +kernel, rfl, by decide +kernel, by decide +kernel⟩
theorem us_Councild_initd (C : Kc K mg) : ∃ fd, FnG P w K mg base 6 (df_Councild_initd.loc K) fd ["self", "minds", "ways"] (spOf K 3 F_Councild_initd) ∧ PySem.W.keepIn K (.ref (df_Councild_initd.loc K)) = true ∧ Binds K fd ["self", "minds", "ways"] [] ∧ FnAt K df_Councild_initd fd := by
  obtain ⟨fd0, G0, k0, b0, A0⟩ := us_wrong_way (P := P) (w := w) (base := base) C
  obtain ⟨fd1, G1, k1, b1, A1⟩ := us_wrong_mind (P := P) (w := w) (base := base) C
  obtain ⟨fd, F⟩ := C.df 31 (d := df_Councild_initd) rfl
  refine ⟨fd, fn_ok F sc_Councild_initd fun cdv A outer s0 H E B => ?_, F.kp, F.bindsN fun _ _ _ _ _ _ us hl => match us, hl with | [_, _, _], _ => rfl, F⟩
  exact (ss_cons (s_set (i := 3) sc_Councild_initd.nd rfl (by first | exact Or.inl rfl | exact Or.inr rfl) (e_call B G1 (by decide) rfl (C.glo 55 rfl) k1 b1 (a_cons (vr 1) a_nil)))
  (ss_cons (s_if (t_cmp (o_ne B.u64) (vr 3) (e_tup a_nil) (nomark _)) (ss_one s_never) ss_nil)
  (ss_cons (s_set (i := 3) sc_Councild_initd.nd rfl (by first | exact Or.inl rfl | exact Or.inr rfl) (e_call B G0 (by decide) rfl (C.glo 48 rfl) k0 b0 (a_cons (vr 2) (a_cons (e_cb b_len rfl (C.free 3 rfl) bt_len (a_cons (vr 1) a_nil)) a_nil))))
  (ss_cons (s_if (t_cmp (o_ne B.u64) (vr 3) (e_tup a_nil) (nomark _)) (ss_one s_never) ss_nil)
  (ss_cons (s_fld (one_ ⟨He.cls_ok (C.ok 6 rfl), He.noat_ok (C.ok 23 rfl)⟩) (vr 0) (vr 1))
  (ss_one (s_fld (one_ ⟨He.cls_ok (C.ok 6 rfl), He.noat_ok (C.ok 7 rfl)⟩) (vr 0) (vr 2))))))))
theorem sc_sip_l : FnScope N_sip_l ["_law_jug_here", "_law_most"] (defScope st_sip_l) := ⟨rfl, rfl, rfl, by decide +kernel, rfl, by decide +kernel, by decide +kernel⟩
theorem us_sip_l (C : Kc K mg) : ∃ fd, FnG P w K mg base 1 (df_sip_l.loc K) fd ["_law_jug_here", "_law_most"] (spOf K 2 F_sip_l) ∧ PySem.W.keepIn K (.ref (df_sip_l.loc K)) = true ∧ Binds K fd ["_law_jug_here", "_law_most"] [] ∧ FnAt K df_sip_l fd := by
  obtain ⟨fd, F⟩ := C.df 32 (d := df_sip_l) rfl
  refine ⟨fd, fn_ok F sc_sip_l fun cdv A outer s0 H E B => ?_, F.kp, F.bindsN fun _ _ _ _ _ _ us hl => match us, hl with | [_, _], _ => rfl, F⟩
  exact (ss_cons (s_if (t_cmp o_gt (e_ix x_ix (vr 0) k_int (fun _ _ => rfl)) k_int (nomark _)) (ss_cons (s_asg (e_cb b_divmod rfl (C.free 57 rfl) bt_divmod (a_cons (e_ix x_ix (vr 0) k_int (fun _ _ => rfl)) (a_cons (vr 1) a_nil))) (g_unp B.calm (gs_cons (g_sub set_ok (vr 0) k_int) (gs_cons (g_name (i := 2) sc_sip_l.nd rfl (by first | exact Or.inl rfl | exact Or.inr rfl)) gs_nil))))
  (ss_one (s_ret (vr 2)))) ss_nil)
  (ss_cons (s_asg (e_op o_add (e_ix x_ix (vr 0) k_int (fun _ _ => rfl)) k_int) (g_sub set_ok (vr 0) k_int))
  (ss_cons (s_asg (e_op o_mod (e_cty b_int rfl (C.free 18 rfl) bt_int (a_cons (e_op o_add (e_op o_mul (e_ix x_ix (vr 0) k_int (fun _ _ => rfl)) k_int) (e_op o_mul k_int (e_ix x_ix (vr 0) k_int (fun _ _ => rfl)))) a_nil)) k_int) (g_sub set_ok (vr 0) k_int))
  (ss_one (s_ret (e_op o_mod (e_cty b_int rfl (C.free 18 rfl) bt_int (a_cons (e_op o_div (e_ix x_ix (vr 0) k_int (fun _ _ => rfl)) k_int) a_nil)) (vr 1)))))))
theorem sc_many_talks_l : FnScope N_many_talks_l ["_law_jug_here", "_law_talks"] (defScope st_many_talks_l) := ⟨rfl, rfl, rfl, by decide +kernel, rfl, by decide +kernel, by decide +kernel⟩
theorem us_many_talks_l (C : Kc K mg) : ∃ fd, FnG P w K mg base 2 (df_many_talks_l.loc K) fd ["_law_jug_here", "_law_talks"] (spOf K 2 F_many_talks_l) ∧ PySem.W.keepIn K (.ref (df_many_talks_l.loc K)) = true ∧ Binds K fd ["_law_jug_here", "_law_talks"] [] ∧ FnAt K df_many_talks_l fd := by
  obtain ⟨fd0, G0, k0, b0, A0⟩ := us_sip_l (P := P) (w := w) (base := base) C
  obtain ⟨fd, F⟩ := C.df 33 (d := df_many_talks_l) rfl
  refine ⟨fd, fn_scop (fn_ok F sc_many_talks_l fun cdv A outer s0 H E B => ?_), F.kp, F.bindsN fun _ _ _ _ _ _ us hl => match us, hl with | [_, _], _ => rfl, F⟩
  exact (ss_cons (s_set (i := 2) sc_many_talks_l.nd rfl (by first | exact Or.inl rfl | exact Or.inr rfl) (e_lstC1 rfl (C.free 59 rfl) (vr 1)))
  (ss_cons (s_for B.hp B.calm (j_range1 rfl (C.free 4 rfl) (a_cons (e_call B G0 (by decide) rfl (C.glo 58 rfl) k0 b0 (a_cons (vr 0) (a_cons k_int a_nil))) a_nil)) (g_name (i := 3) sc_many_talks_l.nd rfl (by first | exact Or.inl rfl | exact Or.inr rfl)) (ss_cons (s_set (i := 4) sc_many_talks_l.nd rfl (by first | exact Or.inl rfl | exact Or.inr rfl) (e_ix x_ix (vr 1) (e_call B G0 (by decide) rfl (C.glo 58 rfl) k0 b0 (a_cons (vr 0) (a_cons (e_cb b_len rfl (C.free 3 rfl) bt_len (a_cons (vr 1) a_nil)) a_nil))) (fun _ _ => rfl)))
  (ss_cons (s_set (i := 5) sc_many_talks_l.nd rfl (by first | exact Or.inl rfl | exact Or.inr rfl) (e_lstC a_nil))
  (ss_cons (s_for B.hp B.calm (i_val (vr 4)) (g_name (i := 6) sc_many_talks_l.nd rfl (by first | exact Or.inl rfl | exact Or.inr rfl)) (ss_cons (s_set (i := 7) sc_many_talks_l.nd rfl (by first | exact Or.inl rfl | exact Or.inr rfl) (e_if (t_cmp o_lt (e_cb (b_maxS B.calm B.u65) rfl (C.free 1 rfl) bt_max (a_cons (vr 6) a_nil)) (e_op o_pow k_int k_int) (nomark _)) (e_op o_add k_int (e_call B G0 (by decide) rfl (C.glo 58 rfl) k0 b0 (a_cons (vr 0) (a_cons k_int a_nil)))) k_int))
  (ss_one (s_expr (e_bm PySem.F.plainAttrs_list PySem.F.slot_list_append PySem.F.type_list_append m_append tv_lst (vr 5) (a_cons (e_cty b_tup rfl (C.free 5 rfl) bt_tuple (a_cons (e_lc B.calm sc_many_talks_l.nd (i_val (vr 6)) (own := [("_law_one", 8)]) (blk_ok (by kernel_rfl)) (fun _ _ _ _ _ => (gw_name (i := 8) (by decide) sc_many_talks_l.nd rfl (by first | exact Or.inl rfl | exact Or.inr rfl))) (fun _ _ _ _ _ => ts_nil) (fun _ _ _ _ _ => (e_op o_mul (vr 7) (vr 8)))) a_nil)) a_nil))))))
  (ss_cons (s_if (PW.pt (w_and (t_cmp (o_eq B.u64) (e_call B G0 (by decide) rfl (C.glo 58 rfl) k0 b0 (a_cons (vr 0) (a_cons k_int a_nil))) k_int (nomark _)) (w_and1 (t_cmp o_lt (e_ix x_ix (e_ix x_ix (vr 5) (e_un u_neg k_int) (fun _ _ => rfl)) k_int (fun _ _ => rfl)) (e_op o_pow k_int k_int) (nomark _))))) (ss_one (s_asg (e_op o_add (e_tup (a_cons (e_op o_add (e_ix x_ix (e_ix x_ix (vr 5) (e_un u_neg k_int) (fun _ _ => rfl)) k_int (fun _ _ => rfl)) k_int) a_nil)) (e_sl (e_ix x_ix (vr 5) (e_un u_neg k_int) (fun _ _ => rfl)) (o_some k_int) o_none)) (g_sub set_ok (vr 5) (e_un u_neg k_int)))) ss_nil)
  (ss_one (s_expr (e_bm PySem.F.plainAttrs_list PySem.F.slot_list_append PySem.F.type_list_append m_append tv_lst (vr 2) (a_cons (e_cty b_tup rfl (C.free 5 rfl) bt_tuple (a_cons (vr 5) a_nil)) a_nil)))))))))
  (ss_one (s_ret (e_cty b_tup rfl (C.free 5 rfl) bt_tuple (a_cons (vr 2) a_nil))))))
theorem sc_row_l : FnScope N_row_l ["_law_jug_here", "_law_size"] (defScope st_row_l) := ⟨rfl, rfl, rfl, by decide +kernel, rfl, by decide +kernel, by decide +kernel⟩
theorem us_row_l (C : Kc K mg) : ∃ fd, FnG P w K mg base 2 (df_row_l.loc K) fd ["_law_jug_here", "_law_size"] (spOf K 2 F_row_l) ∧ PySem.W.keepIn K (.ref (df_row_l.loc K)) = true ∧ Binds K fd ["_law_jug_here", "_law_size"] [] ∧ FnAt K df_row_l fd := by
  obtain ⟨fd0, G0, k0, b0, A0⟩ := us_sip_l (P := P) (w := w) (base := base) C
  obtain ⟨fd, F⟩ := C.df 34 (d := df_row_l) rfl
  refine ⟨fd, fn_scop (fn_ok F sc_row_l fun cdv A outer s0 H E B => ?_), F.kp, F.bindsN fun _ _ _ _ _ _ us hl => match us, hl with | [_, _], _ => rfl, F⟩
  exact (ss_cons (s_setLcC (i := 2) B.calm sc_row_l.nd rfl rfl rfl (j_range1 rfl (C.free 4 rfl) (a_cons (vr 1) a_nil)) (own := [("_law_k", 3)]) (blk_ok (by kernel_rfl)) (fun _ _ _ _ _ => (gw_name (i := 3) (by decide) sc_row_l.nd rfl (by first | exact Or.inl rfl | exact Or.inr rfl))) (fun _ _ _ _ _ => ts_nil) (fun _ _ _ _ _ => (e_ix x_ix (e_lst (a_cons k_int (a_cons k_int (a_cons k_int (a_cons k_int (a_cons k_int (a_cons k_int (a_cons k_int a_nil)))))))) (e_call (bd_blk B) G0 (by decide) rfl (C.glo 58 rfl) k0 b0 (a_cons (vr 0) (a_cons k_int a_nil))) (fun _ _ => rfl))))
  (ss_cons (s_if (t_cmp (o_eq B.u64) (e_cb (b_sum B.calm) rfl (C.free 11 rfl) bt_sum (a_cons (vr 2) a_nil)) k_int (nomark _)) (ss_one (s_asg (e_ix x_ix (e_lst (a_cons k_int (a_cons k_int (a_cons (e_op o_pow k_int k_int) a_nil)))) (e_call B G0 (by decide) rfl (C.glo 58 rfl) k0 b0 (a_cons (vr 0) (a_cons k_int a_nil))) (fun _ _ => rfl)) (g_sub set_ok (vr 2) (e_call B G0 (by decide) rfl (C.glo 58 rfl) k0 b0 (a_cons (vr 0) (a_cons (vr 1) a_nil)))))) ss_nil)
  (ss_one (s_ret (e_cty b_tup rfl (C.free 5 rfl) bt_tuple (a_cons (vr 2) a_nil))))))
theorem sc_talk_l : FnScope N_talk_l ["_law_jug_here", "_law_size"] (defScope st_talk_l) := ⟨rfl, rfl, rfl, by decide +kernel, rfl, by decide +kernel, by decide +kernel⟩
theorem us_talk_l (C : Kc K mg) : ∃ fd, FnG P w K mg base 3 (df_talk_l.loc K) fd ["_law_jug_here", "_law_size"] (spOf K 2 F_talk_l) ∧ PySem.W.keepIn K (.ref (df_talk_l.loc K)) = true ∧ Binds K fd ["_law_jug_here", "_law_size"] [] ∧ FnAt K df_talk_l fd := by
  obtain ⟨fd0, G0, k0, b0, A0⟩ := us_row_l (P := P) (w := w) (base := base) C
  obtain ⟨fd, F⟩ := C.df 35 (d := df_talk_l) rfl
  refine ⟨fd, fn_ok F sc_talk_l fun cdv A outer s0 H E B => ?_, F.kp, F.bindsN fun _ _ _ _ _ _ us hl => match us, hl with | [_, _], _ => rfl, F⟩
  exact (ss_one (s_ret (e_cty b_tup rfl (C.free 5 rfl) bt_tuple (a_cons (e_lc B.calm sc_talk_l.nd (j_range1 rfl (C.free 4 rfl) (a_cons (vr 1) a_nil)) (own := [("_law_k", 2)]) (blk_ok (by kernel_rfl)) (fun _ _ _ _ _ => (gw_name (i := 2) (by decide) sc_talk_l.nd rfl (by first | exact Or.inl rfl | exact Or.inr rfl))) (fun _ _ _ _ _ => ts_nil) (fun _ _ _ _ _ => (e_call (bd_blk B) G0 (by decide) rfl (C.glo 61 rfl) k0 b0 (a_cons (vr 0) (a_cons (vr 1) a_nil))))) a_nil))))
theorem sc_pair_l : FnScope N_pair_l ["_law_jug_here", "_law_most_here"] (defScope st_pair_l) := ⟨rfl, rfl, rfl, by decide +kernel, rfl, by decide +kernel, by decide +kernel⟩
theorem us_pair_l (C : Kc K mg) : ∃ fd, FnG P w K mg base 4 (df_pair_l.loc K) fd ["_law_jug_here", "_law_most_here"] (spOf K 2 F_pair_l) ∧ PySem.W.keepIn K (.ref (df_pair_l.loc K)) = true ∧ Binds K fd ["_law_jug_here", "_law_most_here"] [] ∧ FnAt K df_pair_l fd := by
  obtain ⟨fd0, G0, k0, b0, A0⟩ := us_sip_l (P := P) (w := w) (base := base) C
  obtain ⟨fd1, G1, k1, b1, A1⟩ := us_talk_l (P := P) (w := w) (base := base) C
  obtain ⟨fd, F⟩ := C.df 36 (d := df_pair_l) rfl
  refine ⟨fd, fn_scop (fn_ok F sc_pair_l fun cdv A outer s0 H E B => ?_), F.kp, F.bindsN fun _ _ _ _ _ _ us hl => match us, hl with | [_, _], _ => rfl, F⟩
  exact (ss_cons (s_set (i := 2) sc_pair_l.nd rfl (by first | exact Or.inl rfl | exact Or.inr rfl) (e_op o_add k_int (e_call B G0 (by decide) rfl (C.glo 58 rfl) k0 b0 (a_cons (vr 0) (a_cons (vr 1) a_nil)))))
  (ss_cons (s_set (i := 3) sc_pair_l.nd rfl (by first | exact Or.inl rfl | exact Or.inr rfl) (e_lstC (a_cons k_str (a_cons k_str (a_cons k_str (a_cons k_str (a_cons k_str (a_cons k_str (a_cons k_str (a_cons k_str a_nil))))))))))
  (ss_cons (s_set (i := 4) sc_pair_l.nd rfl (by first | exact Or.inl rfl | exact Or.inr rfl) (e_lstC a_nil))
  (ss_cons (s_for B.hp B.calm (j_range1 rfl (C.free 4 rfl) (a_cons (vr 2) a_nil)) (g_name (i := 5) sc_pair_l.nd rfl (by first | exact Or.inl rfl | exact Or.inr rfl)) (ss_one (s_expr (e_bm PySem.F.plainAttrs_list PySem.F.slot_list_append PySem.F.type_list_append m_append tv_lst (vr 4) (a_cons (e_bm PySem.F.plainAttrs_list PySem.F.slot_list_pop PySem.F.type_list_pop m_popAt tv_lst (vr 3) (a_cons (e_call B G0 (by decide) rfl (C.glo 58 rfl) k0 b0 (a_cons (vr 0) (a_cons (e_cb b_len rfl (C.free 3 rfl) bt_len (a_cons (vr 3) a_nil)) a_nil))) a_nil)) a_nil)))))
  (ss_one (s_ret (e_lst (a_cons (e_cty b_tup rfl (C.free 5 rfl) bt_tuple (a_cons (vr 4) a_nil)) (a_cons (e_cty b_tup rfl (C.free 5 rfl) bt_tuple (a_cons (e_lc B.calm sc_pair_l.nd (j_range1 rfl (C.free 4 rfl) (a_cons (e_op o_add k_int (e_call B G0 (by decide) rfl (C.glo 58 rfl) k0 b0 (a_cons (vr 0) (a_cons k_int a_nil)))) a_nil)) (own := [("_law_k", 5)]) (blk_ok (by kernel_rfl)) (fun _ _ _ _ _ => (gw_name (i := 5) (by decide) sc_pair_l.nd rfl (by first | exact Or.inl rfl | exact Or.inr rfl))) (fun _ _ _ _ _ => ts_nil) (fun _ _ _ _ _ => (e_call (bd_blk B) G1 (by decide) rfl (C.glo 62 rfl) k1 b1 (a_cons (vr 0) (a_cons (vr 2) a_nil))))) a_nil)) a_nil)))))))))
theorem sc_right_l : FnScope N_right_l ["_law_jug_here"] (defScope st_right_l) := ⟨rfl, rfl, rfl, by decide +kernel, rfl, by decide +kernel, by decide +kernel⟩
theorem us_right_l (C : Kc K mg) : ∃ fd, FnG P w K mg base 8 (df_right_l.loc K) fd ["_law_jug_here"] (spOf K 1 F_right_l) ∧ PySem.W.keepIn K (.ref (df_right_l.loc K)) = true ∧ Binds K fd ["_law_jug_here"] [] ∧ FnAt K df_right_l fd := by
  obtain ⟨fd0, G0, k0, b0, A0⟩ := us_fitting (P := P) (w := w) (base := base) C
  obtain ⟨fd1, G1, k1, b1, A1⟩ := us_later_l (P := P) (w := w) (base := base) C
  obtain ⟨fd2, G2, k2, b2, A2⟩ := us_ask (P := P) (w := w) (base := base) C
  obtain ⟨fd3, G3, k3, b3, A3⟩ := us_after (P := P) (w := w) (base := base) C
  obtain ⟨fd4, G4, k4, b4, A4⟩ := us_alike (P := P) (w := w) (base := base) C
  obtain ⟨fd5, G5, k5, b5, A5⟩ := us_is_like_l (P := P) (w := w) (base := base) C
  obtain ⟨fd6, G6, k6, b6, A6⟩ := us_Councild_initd (P := P) (w := w) (base := base) C
  obtain ⟨fd7, G7, k7, b7, A7⟩ := us_many_talks_l (P := P) (w := w) (base := base) C
  obtain ⟨fd8, G8, k8, b8, A8⟩ := us_pair_l (P := P) (w := w) (base := base) C
  have kw0 : KwB K fd2 ["council"] ["council"] [0] id := kwb_of A2 _ _ fun _ _ _ _ _ _ ws hl => match ws, hl with | [_], _ => rfl
  have kw1 : KwB K fd4 ["council"] ["council"] [0] id := kwb_of A4 _ _ fun _ _ _ _ _ _ ws hl => match ws, hl with | [_], _ => rfl
  obtain ⟨fd, F⟩ := C.df 37 (d := df_right_l) rfl
  refine ⟨fd, fn_scop (fn_ok F sc_right_l fun cdv A outer s0 H E B => ?_), F.kp, F.bindsN fun _ _ _ _ _ _ us hl => match us, hl with | [_], _ => rfl, F⟩
  exact (ss_cons (s_for B.hp B.calm (j_range1 rfl (C.free 4 rfl) (a_cons k_int a_nil)) (g_name (i := 1) sc_right_l.nd rfl (by first | exact Or.inl rfl | exact Or.inr rfl)) (ss_cons (s_asg (e_call B G8 (by decide) rfl (C.glo 63 rfl) k8 b8 (a_cons (vr 0) (a_cons k_int a_nil))) (g_unp B.calm (gs_cons (g_name (i := 6) sc_right_l.nd rfl (by first | exact Or.inl rfl | exact Or.inr rfl)) (gs_cons (g_name (i := 2) sc_right_l.nd rfl (by first | exact Or.inl rfl | exact Or.inr rfl)) gs_nil))))
  (ss_cons (s_set (i := 2) sc_right_l.nd rfl (by first | exact Or.inl rfl | exact Or.inr rfl) (e_call B G7 (by decide) rfl (C.glo 60 rfl) k7 b7 (a_cons (vr 0) (a_cons (vr 2) a_nil))))
  (ss_cons (s_par (i := 7) (j := 8) B.calm sc_right_l.nd rfl rfl (by decide) rfl rfl (a_cons (e_make (frz := true) B (He.mkr_ok (C.ok 56 rfl)) G6 (by decide) rfl (C.glo 25 rfl) b6 (a_cons (vr 6) (a_cons (vr 2) a_nil))) (a_cons (e_lstC a_nil) a_nil)) rfl)
  (ss_cons (s_for B.hp B.calm (j_range1 rfl (C.free 4 rfl) (a_cons (e_cb b_len rfl (C.free 3 rfl) bt_len (a_cons (vr 2) a_nil)) a_nil)) (g_name (i := 3) sc_right_l.nd rfl (by first | exact Or.inl rfl | exact Or.inr rfl)) (ss_one (s_if (t_cmp (o_eq B.u64) (e_lc B.calm sc_right_l.nd (i_val (vr 8)) (own := [("_law_lot", 10)]) (blk_ok (by kernel_rfl)) (fun _ _ _ _ _ => (gw_name (i := 10) (by decide) sc_right_l.nd rfl (by first | exact Or.inl rfl | exact Or.inr rfl))) (fun _ _ _ _ _ => (ts_one (t_cmp (o_in (bd_blk B).u65) (vr 3) (vr 10) rfl))) (fun _ _ _ _ _ => (vr 10))) (e_lst a_nil) (nomark _)) (ss_one (s_expr (e_bm PySem.F.plainAttrs_list PySem.F.slot_list_append PySem.F.type_list_append m_append tv_lst (vr 8) (a_cons (e_cty b_tup rfl (C.free 5 rfl) bt_tuple (a_cons (e_lc B.calm sc_right_l.nd (j_range1 rfl (C.free 4 rfl) (a_cons (e_cb b_len rfl (C.free 3 rfl) bt_len (a_cons (vr 2) a_nil)) a_nil)) (own := [("_law_j", 9)]) (blk_ok (by kernel_rfl)) (fun _ _ _ _ _ => (gw_name (i := 9) (by decide) sc_right_l.nd rfl (by first | exact Or.inl rfl | exact Or.inr rfl))) (fun _ _ _ _ _ => (ts_one (t_val (e_call (bd_blk B) G5 (by decide) rfl (C.glo 43 rfl) k5 b5 (a_cons (e_ix x_ix (vr 2) (vr 3) (fun _ _ => rfl)) (a_cons (e_ix x_ix (vr 2) (vr 9) (fun _ _ => rfl)) a_nil)))))) (fun _ _ _ _ _ => (vr 9))) a_nil)) a_nil)))) ss_nil)))
  (ss_cons (s_if (t_cmp (o_ne B.u64) (e_cb (b_repr B) rfl (C.free 41 rfl) bt_repr (a_cons (e_lst (a_cons (e_call B G4 (by decide) rfl (C.glo 42 rfl) k4 b4 (a_cons (vr 7) a_nil)) (a_cons (e_callKw B G4 (by decide) rfl (C.glo 42 rfl) k4 kw1 (k_cons (vr 7) k_nil) rfl) a_nil))) a_nil)) (e_cb (b_repr B) rfl (C.free 41 rfl) bt_repr (a_cons (e_op o_mul (e_lst (a_cons (e_cty b_tup rfl (C.free 5 rfl) bt_tuple (a_cons (vr 8) a_nil)) a_nil)) k_int) a_nil)) (nomark _)) (ss_one (s_ret k_bl)) ss_nil)
  (ss_cons (s_set (i := 4) sc_right_l.nd rfl (by first | exact Or.inl rfl | exact Or.inr rfl) (e_call B G2 (by decide) rfl (C.glo 34 rfl) k2 b2 (a_cons (vr 7) a_nil)))
  (ss_cons (s_if (PW.pt (w_or (t_not (t_val (e_cb (b_isi C.iso) rfl (C.free 17 rfl) bt_isinstance (a_cons (vr 4) (a_cons (g_ty (C.free 5 rfl) bt_tuple) a_nil))))) (w_or (t_cmp (o_ne B.u64) (e_cb b_len rfl (C.free 3 rfl) bt_len (a_cons (vr 4) a_nil)) (e_cb b_len rfl (C.free 3 rfl) bt_len (a_cons (vr 6) a_nil)) (nomark _)) (w_or1 (t_cmp (o_ne B.u64) (e_call B G3 (by decide) rfl (C.glo 40 rfl) k3 b3 (a_cons (vr 7) (a_cons (vr 4) (a_cons (e_tup a_nil) a_nil)))) (vr 4) (nomark _)))))) (ss_one (s_ret k_bl)) ss_nil)
  (ss_cons (s_if (t_cmp (o_ne B.u64) (e_callKw B G2 (by decide) rfl (C.glo 34 rfl) k2 kw0 (k_cons (vr 7) k_nil) rfl) (vr 4) (nomark _)) (ss_one (s_ret k_bl)) ss_nil)
  (ss_cons (s_setLc (i := 5) B.calm sc_right_l.nd rfl rfl rfl (j_range1 rfl (C.free 4 rfl) (a_cons (e_cb b_len rfl (C.free 3 rfl) bt_len (a_cons (vr 2) a_nil)) a_nil)) (own := [("_law_at", 3)]) (blk_ok (by kernel_rfl)) (fun _ _ _ _ _ => (gw_name (i := 3) (by decide) sc_right_l.nd rfl (by first | exact Or.inl rfl | exact Or.inr rfl))) (fun _ _ _ _ _ => ts_nil) (fun _ _ _ _ _ => (e_call (bd_blk B) G1 (by decide) rfl (C.glo 31 rfl) k1 b1 (a_cons (vr 2) (a_cons (vr 4) (a_cons (e_tup (a_cons (vr 3) a_nil)) a_nil))))))
  (ss_one (s_for B.hp B.calm (j_range1 rfl (C.free 4 rfl) (a_cons (e_cb b_len rfl (C.free 3 rfl) bt_len (a_cons (vr 2) a_nil)) a_nil)) (g_name (i := 3) sc_right_l.nd rfl (by first | exact Or.inl rfl | exact Or.inr rfl)) (ss_cons (s_for B.hp B.calm (j_range1 rfl (C.free 4 rfl) (a_cons (e_cb b_len rfl (C.free 3 rfl) bt_len (a_cons (vr 2) a_nil)) a_nil)) (g_name (i := 9) sc_right_l.nd rfl (by first | exact Or.inl rfl | exact Or.inr rfl)) (ss_one (s_if (t_cmp (o_ne B.u64) (e_cmp (o_eq B.u64) (e_ix x_ix (vr 5) (vr 3) (fun _ _ => rfl)) (e_ix x_ix (vr 5) (vr 9) (fun _ _ => rfl)) (nomark _)) (e_cmp (o_ne B.u64) (e_lc B.calm sc_right_l.nd (i_val (vr 8)) (own := [("_law_lot", 10)]) (blk_ok (by kernel_rfl)) (fun _ _ _ _ _ => (gw_name (i := 10) (by decide) sc_right_l.nd rfl (by first | exact Or.inl rfl | exact Or.inr rfl))) (fun _ _ _ _ _ => (ts_one (PW.pt (w_and (t_cmp (o_in (bd_blk B).u65) (vr 3) (vr 10) rfl) (w_and1 (t_cmp (o_in (bd_blk B).u65) (vr 9) (vr 10) rfl)))))) (fun _ _ _ _ _ => (vr 10))) (e_lst a_nil) (nomark _)) (nomark _)) (ss_one (s_ret k_bl)) ss_nil)))
  (ss_one (s_if (t_cmp (o_ne B.u64) (e_call B G0 (by decide) rfl (C.glo 28 rfl) k0 b0 (a_cons (vr 7) (a_cons (vr 4) (a_cons (e_ix x_ix (vr 5) (vr 3) (fun _ _ => rfl)) a_nil)))) (e_ix x_ix (e_lc B.calm sc_right_l.nd (i_val (vr 8)) (own := [("_law_lot", 10)]) (blk_ok (by kernel_rfl)) (fun _ _ _ _ _ => (gw_name (i := 10) (by decide) sc_right_l.nd rfl (by first | exact Or.inl rfl | exact Or.inr rfl))) (fun _ _ _ _ _ => (ts_one (t_cmp (o_in (bd_blk B).u65) (vr 3) (vr 10) rfl))) (fun _ _ _ _ _ => (vr 10))) k_int (fun _ _ => rfl)) (nomark _)) (ss_one (s_ret k_bl)) ss_nil)))))))))))))))
  (ss_one (s_ret k_bl)))
theorem sc_quiet_l : FnScope N_quiet_l ["_law_jug_here"] (defScope st_quiet_l) := ⟨rfl, rfl, rfl, by decide +kernel, rfl, by decide +kernel, by decide +kernel⟩
theorem us_quiet_l (C : Kc K mg) : ∃ fd, FnG P w K mg base 9 (df_quiet_l.loc K) fd ["_law_jug_here"] (spOf K 1 F_quiet_l) ∧ PySem.W.keepIn K (.ref (df_quiet_l.loc K)) = true ∧ Binds K fd ["_law_jug_here"] [] ∧ FnAt K df_quiet_l fd := by
  obtain ⟨fd0, G0, k0, b0, A0⟩ := us_right_l (P := P) (w := w) (base := base) C
  obtain ⟨fd, F⟩ := C.df 38 (d := df_quiet_l) rfl
  refine ⟨fd, fn_ok F sc_quiet_l fun cdv A outer s0 H E B => ?_, F.kp, F.bindsN fun _ _ _ _ _ _ us hl => match us, hl with | [_], _ => rfl, F⟩
  exact (ss_cons (s_tryQ (ss_one (s_set (i := 1) sc_quiet_l.nd rfl (by first | exact Or.inl rfl | exact Or.inr rfl) (e_call (bd_nox B) G0 (by decide) rfl (C.glo 64 rfl) k0 b0 (a_cons (vr 0) a_nil)))))
  (ss_one (s_ret (vr 1))))
theorem sc_jug_l : FnScope N_jug_l ["_law_script", "_law_at"] (defScope st_jug_l) := ⟨rfl, rfl, rfl, by decide +kernel, rfl, by decide +kernel, by decide +kernel⟩
theorem us_jug_l (C : Kc K mg) : ∃ fd, FnG P w K mg base 1 (df_jug_l.loc K) fd ["_law_script", "_law_at"] (spOf K 2 F_jug_l) ∧ PySem.W.keepIn K (.ref (df_jug_l.loc K)) = true ∧ Binds K fd ["_law_script", "_law_at"] [] ∧ FnAt K df_jug_l fd := by
  obtain ⟨fd, F⟩ := C.df 39 (d := df_jug_l) rfl
  refine ⟨fd, fn_ok F sc_jug_l fun cdv A outer s0 H E B => ?_, F.kp, F.bindsN fun _ _ _ _ _ _ us hl => match us, hl with | [_, _], _ => rfl, F⟩
  exact (ss_cons (s_set (i := 2) sc_jug_l.nd rfl (by first | exact Or.inl rfl | exact Or.inr rfl) (e_if (t_cmp o_lt (vr 1) (e_cb b_len rfl (C.free 3 rfl) bt_len (a_cons (vr 0) a_nil)) (nomark _)) (e_ix x_ix (vr 0) (vr 1) (fun _ _ => rfl)) (e_op o_add (e_op o_mul k_int (vr 1)) k_int)))
  (ss_cons (s_set (i := 3) sc_jug_l.nd rfl (by first | exact Or.inl rfl | exact Or.inr rfl) (e_op o_add k_int (e_op o_mul k_int (vr 1))))
  (ss_cons (s_for B.hp B.calm (i_val (e_op o_add (e_lst (a_cons (vr 2) a_nil)) (e_sl (vr 0) o_none (o_some k_int)))) (g_name (i := 4) sc_jug_l.nd rfl (by first | exact Or.inl rfl | exact Or.inr rfl)) (ss_one (s_set (i := 3) sc_jug_l.nd rfl (by first | exact Or.inl rfl | exact Or.inr rfl) (e_op o_mod (e_cty b_int rfl (C.free 18 rfl) bt_int (a_cons (e_op o_add (e_op o_mul (vr 3) k_int) (vr 4)) a_nil)) k_int))))
  (ss_one (s_ret (e_lstC (a_cons (e_if (t_cmp o_ge (e_cb b_abs rfl (C.free 9 rfl) bt_abs (a_cons (vr 2) a_nil)) (e_op o_pow k_int k_int) (nomark _)) (e_cb b_abs rfl (C.free 9 rfl) bt_abs (a_cons (vr 2) a_nil)) k_int) (a_cons (vr 3) (a_cons k_int a_nil)))))))))
theorem sc_law : FnScope N_law ["_law_script"] (defScope st_law) := ⟨rfl, rfl, rfl, by decide +kernel, rfl, by decide +kernel, by decide +kernel⟩
theorem us_law (C : Kc K mg) : ∃ fd, FnG P w K mg base 10 (df_law.loc K) fd ["_law_script"] (spOf K 1 F_law) ∧ PySem.W.keepIn K (.ref (df_law.loc K)) = true ∧ Binds K fd ["_law_script"] [] ∧ FnAt K df_law fd := by
  obtain ⟨fd0, G0, k0, b0, A0⟩ := us_quiet_l (P := P) (w := w) (base := base) C
  obtain ⟨fd1, G1, k1, b1, A1⟩ := us_jug_l (P := P) (w := w) (base := base) C
  obtain ⟨fd, F⟩ := C.df 40 (d := df_law) rfl
  refine ⟨fd, fn_ok F sc_law fun cdv A outer s0 H E B => ?_, F.kp, F.bindsN fun _ _ _ _ _ _ us hl => match us, hl with | [_], _ => rfl, F⟩
  exact (ss_one (s_ret (e_cb (b_all B.calm) rfl (C.free 0 rfl) bt_all (a_cons (e_lc B.calm sc_law.nd (j_range1 rfl (C.free 4 rfl) (a_cons (e_cb (b_max2 B.calm) rfl (C.free 1 rfl) bt_max (a_cons k_int (a_cons (e_cb (b_min2 B.calm) rfl (C.free 2 rfl) bt_min (a_cons (e_cb b_len rfl (C.free 3 rfl) bt_len (a_cons (vr 0) a_nil)) (a_cons k_int a_nil))) a_nil))) a_nil)) (own := [("_law_at", 1)]) (blk_ok (by kernel_rfl)) (fun _ _ _ _ _ => (gw_name (i := 1) (by decide) sc_law.nd rfl (by first | exact Or.inl rfl | exact Or.inr rfl))) (fun _ _ _ _ _ => ts_nil) (fun _ _ _ _ _ => (e_call (bd_blk B) G0 (by decide) rfl (C.glo 65 rfl) k0 b0 (a_cons (e_call (bd_blk B) G1 (by decide) rfl (C.glo 66 rfl) k1 b1 (a_cons (vr 0) (a_cons (vr 1) a_nil))) a_nil)))) a_nil))))
end
end Ag.k21

namespace Ag.k21
open PySem PySem.Spec PyProof.Rows L2
theorem fin {P : Program} {w : World} {K : PySem.W.Frag} {h : Heap} {mg : Str → Option Value} {f : Addr} (X : K.In h) (G : h.Ns mainGlobals mg) (hf : mg ("law" : Str) = some (.ref f)) (c : Told fa fn ex K) :
    ∃ (Kf : PySem.W.Frag) (fd : FuncData) (pr : Sp), Kf.In h ∧ (∀ (s : Shared) (u : Value), BindsTo s fd ⟨[u], []⟩ [("_law_script", u)]) ∧
      (∀ (A : Hp) (a : Addr) (ns : List Int), ns.length ≤ 63 → Only A → SqL Kf A a (ns.map V.int) → pr [.ref a] A (fun v _ => v = .bl true) fun _ _ _ => False) ∧
      ∀ low : Heap, Kf.In low → low.Ns mainGlobals mg → FnG P w Kf mg low 10 f fd ["_law_script"] pr := by
  have C := kc_of (kn_of X G c)
  have e := hf.symm.trans (He.glo_ok X G (c.fa (.glo "law") (by simp [fa])))
  cases e
  obtain ⟨fd, F⟩ := C.df 40 (d := df_law) rfl
  have b := FunD.bindsA (ps := ["_law_script"]) F fun _ _ _ _ _ _ us hl => match us, hl with | [_], _ => rfl
  refine ⟨K, fd, spOf K 1 F_law, X, fun s v => b s [v] rfl, fun A a ns hl ho sq => law_sp law_good hl ho sq, fun low KL GL => ?_⟩
  obtain ⟨fd2, G2, _, _, A2⟩ := us_law (P := P) (w := w) (base := low) C
  exact same_fd A2 F ▸ G2
end Ag.k21
open PySem PySem.W PySem.Calls PyProof.Rows
theorem PySem.Challenge.cw_alwaysagree_k21_whole_groups_and_questio_holds : PySem.Challenge.rw_alwaysagree_k21_whole_groups_and_questio.Holds := by
  w_on; o_law
  refine HandSHeadRun.head_any (r := OpenLaw.row PySem.Challenge.rw_alwaysagree_k21_whole_groups_and_questio) (q := view (OpenLaw.row PySem.Challenge.rw_alwaysagree_k21_whole_groups_and_questio).prog [66]) (H := Ag.k21.hk) (ob := Ag.k21.ob) (M := 20000) (loose := Ag.k21.loose) (d := HandSHeadRun.topDef (OpenLaw.row PySem.Challenge.rw_alwaysagree_k21_whole_groups_and_questio).prog 66) (kwd := [])
    Ag.k21.ob_eq (by kernel_rfl) (fun s => by kernel_rfl) Ag.k21.run (by kernel_rfl) (by kernel_rfl) (by kernel_rfl) (by rfl) (by first | assumption | decide +kernel) (by decide +kernel) ⟨rfl, rfl, rfl, rfl, rfl, by decide +kernel⟩ ?hw ?hc
  case hw => w_witness2
  case hc =>
    refine Ag.walk_G (l := PySem.Challenge.rw_alwaysagree_k21_whole_groups_and_questio) (n := 63) (lv := 10) (par := "_law_script") rfl (by decide) (by kernel_rfl) ⟨rfl, by decide, by decide⟩ ?F
    intro w mg fa h Y G hmg0
    obtain ⟨K, KX, c⟩ := Y
    have hmg : mg ("law" : PySem.Str) = some (.ref fa) := by
      have e : (HandSHeadRun.topDef (OpenLaw.row PySem.Challenge.rw_alwaysagree_k21_whole_groups_and_questio).prog 66).name = ("law" : PySem.Str) := by kernel_rfl
      rw [← e]
      exact hmg0
    exact Ag.k21.fin KX G hmg c
